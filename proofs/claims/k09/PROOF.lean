import PyProof.Rows.All
import Wide.All
import OpenK.AllK
import Wide.FinOn
import HandS.Base
import HandS.Call
import HandS.List
import HandS.Exc
import HandS.Lambda
import KE.KSortTupAny
import HandS.Comp
import HandS.Iter
import HandS.Conv
import HandS.Text
import HandS.Wide
import HandS.Dict
import HandS.Flow
import HandS.Deep
import HandS.TupAny
import HandS.More
import HandS.Codes
import HandS.HeadWalk
import HandS.ExcOwn
import HandS.TryMany
import HandS.SortInts
import HandS.TupLen
import HandS.NoneIn
import HandS.Style
import HandS.TryOnly
import KE.KDictWalk
import KE.KDictItemsList
import HandS.RaiseMore
import PyProof.ExcBaseAll.ValueError
import KE.KDictPairs
import KE.KDictKeyed
import HandS.ListItems
import HandS.SortRule
import KE.KNest
import KE.KNestM
import HandS.Words
import HandS.Defaults
import HandS.HeadHook1
import HandS.HeadHook2
import HandS.HeadHook3
import HandS.HeadHook4
import PySem.Challenge.RW_nethall_k09_leases
import KE.KStateDown
import Lean
import HandS.Head0
import HandS.Head1
import HandS.Head2
section
set_option Elab.async false
set_option linter.all false
set_option maxRecDepth 100000
/-! Mini: values, store, outcomes of the small machine; how they stand in the abstract heap. -/
namespace Mn
open PySem PySem.Spec PyProof.Rows L2
/-- a dict key: one int or text, or a tuple of these -/
inductive K1 where
  | int (i : Int) | str (s : List Nat)
  deriving DecidableEq
inductive Ky where
  | one (k : K1) | many (ks : List K1)
  deriving DecidableEq
inductive W where
  | non | bl (b : Bool) | int (i : Int) | str (s : List Nat)
  | tup (xs : List W) | lst (xs : List W)
  | dct (kvs : List (Ky × W))
  | obj (c : Nat) (fs : List (Nat × W))
  | ref (n : Nat)
  | ctp (xs : List W)
instance : Inhabited W := ⟨.non⟩
/-- what changes: lists, dicts (locked while walked), instances -/
inductive SO where
  | lst (xs : List W) | dct (lk : Bool) (kvs : List (Ky × W)) | ins (c : Nat) (fs : List (Nat × W))
structure Sto where
  nxt : Nat
  get : Nat → Option SO
def Sto.set (s : Sto) (n : Nat) (o : SO) : Sto := ⟨s.nxt, fun m => if m = n then some o else s.get m⟩
def Sto.new (s : Sto) (o : SO) : Sto := ⟨s.nxt + 1, fun m => if m = s.nxt then some o else s.get m⟩
def Sto.del (s : Sto) (n : Nat) : Sto := ⟨s.nxt, fun m => if m = n then none else s.get m⟩
/-- an exception: its class, its field -/
structure Xn where
  c : Nat
  x : Option (Nat × W)
/-- none: no word about it -/
abbrev Rs (α : Type) := Option (Except Xn α × Sto)
abbrev M (α : Type) := Sto → Rs α
def M.ret {α : Type} (a : α) : M α := fun s => some (.ok a, s)
def M.bind {α β : Type} (m : M α) (f : α → M β) : M β := fun s => match m s with
  | none => none
  | some (.error e, s') => some (.error e, s')
  | some (.ok a, s') => f a s'
def M.of {α : Type} : Option α → M α
  | some a => M.ret a
  | none => fun _ => none
def M.no {α : Type} : M α := fun _ => none
def M.err {α : Type} (e : Xn) : M α := fun s => some (.error e, s)
abbrev Env := List (Option W)

/-! ### how it stands -/
/-- what is known of the text: the written part, the classes' addresses, the fields' names, the tables -/
structure Gx where
  K : PySem.W.Frag
  cad : Nat → Addr
  fnm : Nat → Str
  T : List (Addr × Str)
  con : List (W × V)
def k1V : K1 → V
  | .int i => .int i
  | .str s => .str ⟨s.toArray⟩
def k1K : K1 → L2.Key
  | .int i => .inl i
  | .str s => .inr ⟨s.toArray⟩
theorem k1K_inj : ∀ {a b : K1}, k1K a = k1K b → a = b
  | .int i, .int j, h => by cases h; rfl
  | .str s, .str t, h => by
    have h1 : (⟨s.toArray⟩ : Str) = ⟨t.toArray⟩ := Sum.inr.inj h
    have h2 : s.toArray = t.toArray := congrArg Str.cps h1
    have h3 : s = t := by simpa using h2
    rw [h3]
  | .int i, .str t, h => by cases h
  | .str s, .int j, h => by cases h
theorem kV_k1K (k : K1) : kV (k1K k) = k1V k := by cases k <;> rfl
/-- a frozen view: what never changes any more at an address -/
abbrev Fz := Addr → HO → Prop
mutual
/-- the value v is the w of the small machine -/
def Den (G : Gx) (F : Fz) (ι : List Addr) : W → V → Prop
  | .non, v => v = .non
  | .bl b, v => v = .bl b
  | .int i, v => v = .int i
  | .str s, v => v = .str ⟨s.toArray⟩
  | .tup xs, v => ∃ a vs, v = .ref a ∧ F a (.tup vs) ∧ DenL G F ι xs vs
  | .lst xs, v => ∃ a vs, v = .ref a ∧ F a (.lst vs) ∧ DenL G F ι xs vs
  | .dct kvs, v => ∃ a o, v = .ref a ∧ F a o ∧ DenD G F ι kvs o
  | .obj c fs, v => ∃ a dx fvs, v = .ref a ∧ F a (.ins (G.cad c) dx fvs) ∧ DenF G F ι fs fvs
  | .ref n, v => ∃ a, ι[n]? = some a ∧ v = .ref a
  | .ctp xs, v => ∃ a ob vs, v = .ref a ∧ F a (.frz ob (.tup vs)) ∧ DenL G F ι xs vs
def DenL (G : Gx) (F : Fz) (ι : List Addr) : List W → List V → Prop
  | [], vs => vs = []
  | x :: xs, vs => ∃ v r, vs = v :: r ∧ Den G F ι x v ∧ DenL G F ι xs r
/-- a dict's pairs: plain keys, or tuples -/
def DenD (G : Gx) (F : Fz) (ι : List Addr) : List (Ky × W) → HO → Prop
  | [], o => o = .dK [] ∨ o = .dT []
  | (.one k, x) :: r, o => ∃ v kvs, o = .dK ((k1K k, v) :: kvs) ∧ Den G F ι x v ∧ DenDK G F ι r kvs
  | (.many ks, x) :: r, o => ∃ v kvs, o = .dT ((ks.map k1K, v) :: kvs) ∧ Den G F ι x v ∧ DenDT G F ι r kvs
def DenDK (G : Gx) (F : Fz) (ι : List Addr) : List (Ky × W) → List (L2.Key × V) → Prop
  | [], kvs => kvs = []
  | (.one k, x) :: r, kvs => ∃ v q, kvs = (k1K k, v) :: q ∧ Den G F ι x v ∧ DenDK G F ι r q
  | (.many _, _) :: _, _ => False
def DenDT (G : Gx) (F : Fz) (ι : List Addr) : List (Ky × W) → List (List L2.Key × V) → Prop
  | [], kvs => kvs = []
  | (.many ks, x) :: r, kvs => ∃ v q, kvs = (ks.map k1K, v) :: q ∧ Den G F ι x v ∧ DenDT G F ι r q
  | (.one _, _) :: _, _ => False
def DenF (G : Gx) (F : Fz) (ι : List Addr) : List (Nat × W) → List (Str × V) → Prop
  | [], fvs => fvs = []
  | (f, x) :: r, fvs => ∃ v q, fvs = (G.fnm f, v) :: q ∧ Den G F ι x v ∧ DenF G F ι r q
end
mutual
theorem Den.mono {G : Gx} {F F' : Fz} {ι ι' : List Addr} (hF : ∀ a o, F a o → F' a o) (hi : ∀ (n : Nat) a, ι[n]? = some a → ι'[n]? = some a) : ∀ (w : W) (v : V), Den G F ι w v → Den G F' ι' w v
  | .non, v, h => by simpa [Den] using h
  | .bl b, v, h => by simpa [Den] using h
  | .int i, v, h => by simpa [Den] using h
  | .str s, v, h => by simpa [Den] using h
  | .tup xs, v, h => by
    simp only [Den] at h ⊢
    obtain ⟨a, vs, e, f, d⟩ := h
    exact ⟨a, vs, e, hF _ _ f, DenL.mono hF hi xs vs d⟩
  | .lst xs, v, h => by
    simp only [Den] at h ⊢
    obtain ⟨a, vs, e, f, d⟩ := h
    exact ⟨a, vs, e, hF _ _ f, DenL.mono hF hi xs vs d⟩
  | .dct kvs, v, h => by
    simp only [Den] at h ⊢
    obtain ⟨a, o, e, f, d⟩ := h
    exact ⟨a, o, e, hF _ _ f, DenD.mono hF hi kvs o d⟩
  | .obj c fs, v, h => by
    simp only [Den] at h ⊢
    obtain ⟨a, dx, fvs, e, f, d⟩ := h
    exact ⟨a, dx, fvs, e, hF _ _ f, DenF.mono hF hi fs fvs d⟩
  | .ref n, v, h => by
    simp only [Den] at h ⊢
    obtain ⟨a, e, f⟩ := h
    exact ⟨a, hi _ _ e, f⟩
  | .ctp xs, v, h => by
    simp only [Den] at h ⊢
    obtain ⟨a, ob, vs, e, f, d⟩ := h
    exact ⟨a, ob, vs, e, hF _ _ f, DenL.mono hF hi xs vs d⟩
theorem DenL.mono {G : Gx} {F F' : Fz} {ι ι' : List Addr} (hF : ∀ a o, F a o → F' a o) (hi : ∀ (n : Nat) a, ι[n]? = some a → ι'[n]? = some a) : ∀ (ws : List W) (vs : List V), DenL G F ι ws vs → DenL G F' ι' ws vs
  | [], vs, h => by simpa [DenL] using h
  | x :: xs, vs, h => by
    simp only [DenL] at h ⊢
    obtain ⟨v, r, e, d, q⟩ := h
    exact ⟨v, r, e, Den.mono hF hi x v d, DenL.mono hF hi xs r q⟩
theorem DenD.mono {G : Gx} {F F' : Fz} {ι ι' : List Addr} (hF : ∀ a o, F a o → F' a o) (hi : ∀ (n : Nat) a, ι[n]? = some a → ι'[n]? = some a) : ∀ (kvs : List (Ky × W)) (o : HO), DenD G F ι kvs o → DenD G F' ι' kvs o
  | [], o, h => by simpa [DenD] using h
  | (.one k, x) :: r, o, h => by
    simp only [DenD] at h ⊢
    obtain ⟨v, q, e, d, z⟩ := h
    exact ⟨v, q, e, Den.mono hF hi x v d, DenDK.mono hF hi r q z⟩
  | (.many ks, x) :: r, o, h => by
    simp only [DenD] at h ⊢
    obtain ⟨v, q, e, d, z⟩ := h
    exact ⟨v, q, e, Den.mono hF hi x v d, DenDT.mono hF hi r q z⟩
theorem DenDK.mono {G : Gx} {F F' : Fz} {ι ι' : List Addr} (hF : ∀ a o, F a o → F' a o) (hi : ∀ (n : Nat) a, ι[n]? = some a → ι'[n]? = some a) : ∀ (kvs : List (Ky × W)) (q : List (L2.Key × V)), DenDK G F ι kvs q → DenDK G F' ι' kvs q
  | [], q, h => by simpa [DenDK] using h
  | (.one k, x) :: r, o, h => by
    simp only [DenDK] at h ⊢
    obtain ⟨v, q, e, d, z⟩ := h
    exact ⟨v, q, e, Den.mono hF hi x v d, DenDK.mono hF hi r q z⟩
  | (.many ks, x) :: r, o, h => by simp only [DenDK] at h
theorem DenDT.mono {G : Gx} {F F' : Fz} {ι ι' : List Addr} (hF : ∀ a o, F a o → F' a o) (hi : ∀ (n : Nat) a, ι[n]? = some a → ι'[n]? = some a) : ∀ (kvs : List (Ky × W)) (q : List (List L2.Key × V)), DenDT G F ι kvs q → DenDT G F' ι' kvs q
  | [], q, h => by simpa [DenDT] using h
  | (.many ks, x) :: r, o, h => by
    simp only [DenDT] at h ⊢
    obtain ⟨v, q, e, d, z⟩ := h
    exact ⟨v, q, e, Den.mono hF hi x v d, DenDT.mono hF hi r q z⟩
  | (.one k, x) :: r, o, h => by simp only [DenDT] at h
theorem DenF.mono {G : Gx} {F F' : Fz} {ι ι' : List Addr} (hF : ∀ a o, F a o → F' a o) (hi : ∀ (n : Nat) a, ι[n]? = some a → ι'[n]? = some a) : ∀ (fs : List (Nat × W)) (q : List (Str × V)), DenF G F ι fs q → DenF G F' ι' fs q
  | [], q, h => by simpa [DenF] using h
  | (f, x) :: r, q, h => by
    simp only [DenF] at h ⊢
    obtain ⟨v, z, e, d, y⟩ := h
    exact ⟨v, z, e, Den.mono hF hi x v d, DenF.mono hF hi r z y⟩
end
/-! ### the store over the heap -/
def Live (s : Sto) (ι : List Addr) (a : Addr) : Prop := ∃ n o, s.get n = some o ∧ ι[n]? = some a
/-- what stands at a, never to change: no live object of the store, none of the reserved ones -/
def FzH (G : Gx) (R : List Addr) (s : Sto) (ι : List Addr) (H : Hp) : Fz := fun a o => (¬ Live s ι a ∧ a ∉ R) ∧ match o with
  | .tup _ => H a = some o
  | .frz _ _ => H a = some o
  | .lst _ => Rd H a o
  | .dK q => Rd H a o ∧ (q = [] → H a = some o)
  | .dT q => Rd H a o ∧ (q = [] → H a = some o)
  | .ins _ _ _ => H a = some o
  | .xd _ => H a = some o
  | _ => False
def ODen (G : Gx) (F : Fz) (ι : List Addr) (H : Hp) (a : Addr) : SO → Prop
  | .lst xs => ∃ vs, H a = some (.lst vs) ∧ DenL G F ι xs vs
  | .dct lk kvs => ∃ o, (if lk = true then ∃ ob, H a = some (.frz ob o) else H a = some o) ∧ DenD G F ι kvs o
  | .ins c fs => ∃ dx fvs, H a = some (.ins (G.cad c) dx fvs) ∧ DenF G F ι fs fvs
theorem ODen.mono {G : Gx} {F F' : Fz} {ι ι' : List Addr} {H H' : Hp} {a : Addr} {o : SO} (hF : ∀ a o, F a o → F' a o) (hi : ∀ (n : Nat) a, ι[n]? = some a → ι'[n]? = some a) (hH : H' a = H a) (h : ODen G F ι H a o) : ODen G F' ι' H' a o := by
  cases o with
  | lst xs =>
    obtain ⟨vs, e, d⟩ := h
    exact ⟨vs, by rw [hH]; exact e, d.mono hF hi⟩
  | dct lk kvs =>
    obtain ⟨o, e, d⟩ := h
    refine ⟨o, ?_, d.mono hF hi⟩
    rw [hH]
    exact e
  | ins c fs =>
    obtain ⟨dx, fvs, e, d⟩ := h
    exact ⟨dx, fvs, by rw [hH]; exact e, d.mono hF hi⟩
/-- what may stand at a reserved address -/
def okR : HO → Prop
  | .tup _ => False
  | .tbl _ => False
  | _ => True
structure Sim (G : Gx) (R : List Addr) (s : Sto) (ι : List Addr) (H : Hp) : Prop where
  len : ι.length = s.nxt
  lt : ∀ n o, s.get n = some o → n < s.nxt
  inj : ∀ n m a o u, s.get n = some o → s.get m = some u → ι[n]? = some a → ι[m]? = some a → n = m
  obj : ∀ n o, s.get n = some o → ∃ a, ι[n]? = some a ∧ a ∉ R ∧ ODen G (FzH G R s ι H) ι H a o
  res : ∀ a ∈ R, H a ≠ none
  tab : LamX.Tabs G.T H
  con : ∀ p ∈ G.con, Den G (FzH G R s ι H) ι p.1 p.2
  rnt : ∀ a ∈ R, ∀ u, H a = some u → okR u
/-- from one state to a later one -/
structure Step (G : Gx) (R : List Addr) (s : Sto) (ι : List Addr) (H : Hp) (s' : Sto) (ι' : List Addr) (H' : Hp) : Prop where
  sim : Sim G R s' ι' H'
  pre : ∀ (n : Nat) a, ι[n]? = some a → ι'[n]? = some a
  frz : ∀ a o, FzH G R s ι H a o → FzH G R s' ι' H' a o
  res : ∀ a ∈ R, H' a = H a
  lkd : ∀ a ob u, H a = some (.frz ob u) → H' a = some (.frz ob u)
theorem Step.refl {G : Gx} {R : List Addr} {s : Sto} {ι : List Addr} {H : Hp} (S : Sim G R s ι H) : Step G R s ι H s ι H := ⟨S, fun _ _ h => h, fun _ _ h => h, fun _ _ => rfl, fun _ _ _ h => h⟩
theorem Step.trans {G : Gx} {R : List Addr} {s s1 s2 : Sto} {ι ι1 ι2 : List Addr} {H H1 H2 : Hp} (a : Step G R s ι H s1 ι1 H1) (b : Step G R s1 ι1 H1 s2 ι2 H2) : Step G R s ι H s2 ι2 H2 :=
  ⟨b.sim, fun n x h => b.pre n x (a.pre n x h), fun x o h => b.frz x o (a.frz x o h), fun x h => (b.res x h).trans (a.res x h), fun x ob u h => b.lkd x ob u (a.lkd x ob u h)⟩
theorem Step.den {G : Gx} {R : List Addr} {s s1 : Sto} {ι ι1 : List Addr} {H H1 : Hp} (a : Step G R s ι H s1 ι1 H1) {w : W} {v : V} (d : Den G (FzH G R s ι H) ι w v) : Den G (FzH G R s1 ι1 H1) ι1 w v := d.mono a.frz a.pre
theorem Step.denL {G : Gx} {R : List Addr} {s s1 : Sto} {ι ι1 : List Addr} {H H1 : Hp} (a : Step G R s ι H s1 ι1 H1) {w : List W} {v : List V} (d : DenL G (FzH G R s ι H) ι w v) : DenL G (FzH G R s1 ι1 H1) ι1 w v := d.mono a.frz a.pre
/-- to a later one that reserves more -/
structure Ext (G : Gx) (R : List Addr) (s : Sto) (ι : List Addr) (H : Hp) (R' : List Addr) (s' : Sto) (ι' : List Addr) (H' : Hp) : Prop where
  sim : Sim G R' s' ι' H'
  pre : ∀ (n : Nat) a, ι[n]? = some a → ι'[n]? = some a
  frz : ∀ a o, FzH G R s ι H a o → FzH G R' s' ι' H' a o
  lkd : ∀ a ob u, H a = some (.frz ob u) → H' a = some (.frz ob u)
theorem Step.toExt {G : Gx} {R : List Addr} {s s1 : Sto} {ι ι1 : List Addr} {H H1 : Hp} (a : Step G R s ι H s1 ι1 H1) : Ext G R s ι H R s1 ι1 H1 := ⟨a.sim, a.pre, a.frz, a.lkd⟩
theorem Ext.den {G : Gx} {R R' : List Addr} {s s1 : Sto} {ι ι1 : List Addr} {H H1 : Hp} (a : Ext G R s ι H R' s1 ι1 H1) {w : W} {v : V} (d : Den G (FzH G R s ι H) ι w v) : Den G (FzH G R' s1 ι1 H1) ι1 w v := d.mono a.frz a.pre
theorem Ext.denL {G : Gx} {R R' : List Addr} {s s1 : Sto} {ι ι1 : List Addr} {H H1 : Hp} (a : Ext G R s ι H R' s1 ι1 H1) {w : List W} {v : List V} (d : DenL G (FzH G R s ι H) ι w v) : DenL G (FzH G R' s1 ι1 H1) ι1 w v := d.mono a.frz a.pre
/-- the frame's names -/
def EnvD (G : Gx) (R : List Addr) (s : Sto) (ι : List Addr) (H : Hp) (ρ : Env) (σ : L2.St) : Prop :=
  ρ.length = σ.length ∧ ∀ (i : Nat) w, ρ[i]? = some (some w) → ∃ v, σ[i]? = some (some v) ∧ Den G (FzH G R s ι H) ι w v
theorem EnvD.step {G : Gx} {R : List Addr} {s s1 : Sto} {ι ι1 : List Addr} {H H1 : Hp} {ρ : Env} {σ : L2.St} (d : EnvD G R s ι H ρ σ) (a : Step G R s ι H s1 ι1 H1) : EnvD G R s1 ι1 H1 ρ σ :=
  ⟨d.1, fun i w h => let ⟨v, e, q⟩ := d.2 i w h; ⟨v, e, a.den q⟩⟩
/-- an exception's class and field -/
def XnD (G : Gx) (R : List Addr) (s : Sto) (ι : List Addr) (H : Hp) (e : Xn) (cls : Value) (d : Option Addr) : Prop :=
  cls = .ref (G.cad e.c) ∧ match e.x with
  | none => d = none
  | some (f, w) => ∃ dd v, d = some dd ∧ FzH G R s ι H dd (.xd [(G.fnm f, v)]) ∧ Den G (FzH G R s ι H) ι w v
/-- what is wanted of an outcome -/
def Post (G : Gx) (Wx : WX) (σ : L2.St) (R : List Addr) (s : Sto) (ι : List Addr) (H : Hp) {α : Type} (r : Rs α) (K : α → Sto → List Addr → Hp → Prop) : Prop :=
  match r with
  | none => False
  | some (.ok a, s') => ∀ ι' H', Step G R s ι H s' ι' H' → K a s' ι' H'
  | some (.error e, s') => ∀ ι' H' cls d, Step G R s ι H s' ι' H' → XnD G R s' ι' H' e cls d → Wx cls d σ H'
section
variable {G : Gx} {R : List Addr} {Wx : WX} {σ : L2.St} {s : Sto} {ι : List Addr} {H : Hp} {α β : Type}
theorem Post.mono {r : Rs α} {K K' : α → Sto → List Addr → Hp → Prop} (h : Post G Wx σ R s ι H r K) (hK : ∀ a s' ι' H', Step G R s ι H s' ι' H' → K a s' ι' H' → K' a s' ι' H') : Post G Wx σ R s ι H r K' := by
  unfold Post at h ⊢
  split at h
  · exact h
  · exact fun ι' H' S => hK _ _ _ _ S (h ι' H' S)
  · exact h
theorem Post.seq {s1 : Sto} {ι1 : List Addr} {H1 : Hp} {r : Rs α} {K : α → Sto → List Addr → Hp → Prop} (S : Step G R s ι H s1 ι1 H1) (h : Post G Wx σ R s ι H r K) : Post G Wx σ R s1 ι1 H1 r K := by
  unfold Post at h ⊢
  split at h
  · exact h
  · exact fun ι' H' S' => h ι' H' (S.trans S')
  · exact fun ι' H' c d S' => h ι' H' c d (S.trans S')
theorem Post.bind {m : M α} {f : α → M β} {K : β → Sto → List Addr → Hp → Prop} (h : Post G Wx σ R s ι H (M.bind m f s) K) : Post G Wx σ R s ι H (m s) (fun a s' ι' H' => Post G Wx σ R s' ι' H' (f a s') K) := by
  unfold M.bind at h
  cases e : m s with
  | none => rw [e] at h; exact h
  | some p =>
    obtain ⟨q, s'⟩ := p
    rw [e] at h
    cases q with
    | error x => exact h
    | ok a => exact fun ι' H' S => Post.seq S h
theorem Post.ret {a : α} {K : α → Sto → List Addr → Hp → Prop} (S : Sim G R s ι H) (h : Post G Wx σ R s ι H (M.ret a s) K) : K a s ι H := h ι H (Step.refl S)
theorem Post.ok {a : α} {s' : Sto} {r : Rs α} {K : α → Sto → List Addr → Hp → Prop} {ι' : List Addr} {H' : Hp} (h : Post G Wx σ R s ι H r K) (e : r = some (.ok a, s')) (S : Step G R s ι H s' ι' H') : K a s' ι' H' := by
  rw [e] at h
  exact h ι' H' S
theorem Post.of {o : Option α} {K : α → Sto → List Addr → Hp → Prop} (S : Sim G R s ι H) (h : Post G Wx σ R s ι H (M.of o s) K) : ∃ a, o = some a ∧ K a s ι H := by
  cases o with
  | none => exact h.elim
  | some a => exact ⟨a, rfl, h ι H (Step.refl S)⟩
end
/-! ### steps that are taken -/
section
variable {G : Gx} {R : List Addr} {s : Sto} {ι : List Addr} {H : Hp}
theorem Rd_ne {H : Hp} {a p : Addr} {u : HO} (h : Rd H a u) (hp : H p = none) : a ≠ p := by
  rintro rfl
  rcases h with h | ⟨o, h⟩
  · rw [hp] at h; cases h
  · rw [hp] at h; cases h
theorem Rd_upd {H : Hp} {a p : Addr} {u o : HO} (h : Rd H a u) (hp : H p = none) : Rd (L2.upd H p o) a u := by
  have n := Rd_ne h hp
  unfold Rd at h ⊢
  rw [upd_ne n]
  exact h
theorem Live.tracked (S : Sim G R s ι H) {a : Addr} (l : Live s ι a) : H a ≠ none := by
  obtain ⟨n, o, e, f⟩ := l
  obtain ⟨b, h1, _, h2⟩ := S.obj n o e
  rw [f] at h1
  cases h1
  cases o with
  | lst xs =>
    obtain ⟨vs, e, _⟩ := h2
    rw [e]
    exact fun z => by cases z
  | dct lk kvs =>
    obtain ⟨o, e, _⟩ := h2
    intro z
    by_cases hl : lk = true
    · rw [if_pos hl] at e
      obtain ⟨ob, e⟩ := e
      rw [z] at e
      cases e
    · rw [if_neg hl, z] at e
      cases e
  | ins c fs =>
    obtain ⟨dx, fvs, e, _⟩ := h2
    rw [e]
    exact fun z => by cases z
/-- what is frozen stays so when a new object is laid -/
theorem FzH.laid {p : Addr} {o : HO} (hp : H p = none) {a : Addr} {u : HO} (h : FzH G R s ι H a u) : FzH G R s ι (upd H p o) a u := by
  refine ⟨h.1, ?_⟩
  have h2 := h.2
  cases u with
  | tup vs => exact (upd_ne (ne_of_none h2 hp)).trans h2
  | frz ob u => exact (upd_ne (ne_of_none h2 hp)).trans h2
  | lst vs => exact Rd_upd h2 hp
  | dK kvs => exact ⟨Rd_upd h2.1 hp, fun e => (upd_ne (ne_of_none (h2.2 e) hp)).trans (h2.2 e)⟩
  | dT kvs => exact ⟨Rd_upd h2.1 hp, fun e => (upd_ne (ne_of_none (h2.2 e) hp)).trans (h2.2 e)⟩
  | ins C dx fs => exact (upd_ne (ne_of_none h2 hp)).trans h2
  | xd fs => exact (upd_ne (ne_of_none h2 hp)).trans h2
  | _ => exact h2.elim
/-- a new object is laid: the store as it was -/
theorem Step.laid (S : Sim G R s ι H) {p : Addr} {o : HO} (hp : H p = none) : Step G R s ι H s ι (upd H p o) where
  sim := ⟨S.len, S.lt, S.inj, fun n u e => by
    obtain ⟨a, h1, h2, h3⟩ := S.obj n u e
    refine ⟨a, h1, h2, h3.mono (fun b v h => h.laid hp) (fun _ _ h => h) (upd_ne ?_)⟩
    rintro rfl
    exact Live.tracked S ⟨n, u, e, h1⟩ hp, fun a ha => by
    rw [upd_ne (fun z => S.res a ha (by rw [z]; exact hp))]
    exact S.res a ha, S.tab.ext fun b u e => (upd_ne (ne_of_none e hp)).trans e, fun q hq => (S.con q hq).mono (fun b v h => h.laid hp) fun _ _ h => h, fun a ha u => by
    rw [upd_ne (fun z => S.res a ha (by rw [z]; exact hp))]
    exact S.rnt a ha u⟩
  pre := fun _ _ h => h
  frz := fun a u h => h.laid hp
  res := fun a ha => upd_ne fun z => S.res a ha (by rw [z]; exact hp)
  lkd := fun a ob u h => (upd_ne (ne_of_none h hp)).trans h
/-- a tuple that stands is frozen -/
theorem FzH.tup (S : Sim G R s ι H) {a : Addr} {vs : List V} (h : H a = some (.tup vs)) : FzH G R s ι H a (.tup vs) := by
  refine ⟨⟨fun l => ?_, fun z => S.rnt a z _ h⟩, h⟩
  obtain ⟨n, o, e, f⟩ := l
  obtain ⟨b, h1, _, h2⟩ := S.obj n o e
  rw [f] at h1
  cases h1
  cases o with
  | lst xs => obtain ⟨q, e, _⟩ := h2; rw [h] at e; cases e
  | dct lk kvs =>
    obtain ⟨o, e, d⟩ := h2
    by_cases hl : lk = true
    · rw [if_pos hl, h] at e
      obtain ⟨_, e⟩ := e
      cases e
    · rw [if_neg hl, h] at e
      cases e
      match kvs, d with
      | [], d => simp [DenD] at d
      | (.one k, x) :: r, d => simp [DenD] at d
      | (.many k, x) :: r, d => simp [DenD] at d
  | ins c fs => obtain ⟨dx, fvs, e, _⟩ := h2; rw [h] at e; cases e
/-- a new object is frozen at once -/
theorem FzH.new {p : Addr} {o : HO} (S : Sim G R s ι H) (hp : H p = none) (ho : match o with
  | .tup _ => True | .lst _ => True | .dK _ => True | .dT _ => True | .ins _ _ _ => True | .xd _ => True | _ => False) : FzH G R s ι (upd H p o) p o := by
  refine ⟨⟨fun l => Live.tracked S l hp, fun z => S.res p z hp⟩, ?_⟩
  cases o <;> first | exact upd_same | exact .inl upd_same | exact ⟨.inl upd_same, fun _ => upd_same⟩ | exact ho.elim
end
end Mn

end

section
set_option Elab.async false
set_option linter.all false
set_option maxRecDepth 100000
/-! Mini: the texts of the small machine and what they do. -/
namespace Mn
inductive Kc where
  | non | bl (b : Bool) | int (i : Int) | str (s : List Nat)
inductive B2 where
  | add | sub | mul | fdiv | md | pow
inductive C2 where
  | eq | ne | lt | le | gt | ge | isin | notin
/-- built-ins by values -/
inductive Bi where
  | len | int | str | abs | min2 | max2 | min1 | max1 | maxd | mind | sum | sorted | sortS | sortT | listd (m : Bool) | tuple | list (m : Bool) | dict | lrange (m : Bool) | lrange2 (m : Bool)
/-- methods of built-in types -/
inductive Bm where
  | append | pop0 | pop1 | join | count | index
inductive Gk where
  | any | all | sum
mutual
inductive E where
  | cst (k : Kc)
  | var (i : Nat)
  | glob (g : Nat)
  | bin (o : B2) (a b : E)
  | neg (a : E)
  | cmp (o : C2) (a b : E)
  | chn (o p : C2) (a b c : E)
  | isN (t : Bool) (a : E)
  | and_ (a b : E)
  | or_ (a b : E)
  | not_ (a : E)
  | ite (c a b : E)
  | tup (es : Es)
  | lst (m : Bool) (es : Es)
  | dct0
  | fld (a : E) (f : Nat)
  | idx (a b : E)
  | slc (a : E) (lo hi : Op)
  | call (f : Nat) (es : Es)
  | new (c : Nat) (es : Es)
  | meth (a : E) (m : Nat) (es : Es)
  | bi (b : Bi) (es : Es)
  | bm (b : Bm) (a : E) (es : Es)
  | comp (m : Bool) (elt : E) (t : Tg) (it : It) (ts : Es)
  | comp2 (m : Bool) (elt : E) (t : Tg) (it : It) (t2 : Tg) (it2 : It)
  | gen (k : Gk) (elt : E) (t : Tg) (it : It) (ts : Es)
  | lam (f : Nat) (body : E)
  | thk
  | lkd (i : Nat) (f : Option Nat) (e : E)
  | inV (t : Bool) (a d : E)
  | litems (m : Bool) (d : E)
  | dget (d k x : E)
inductive Es where
  | nil
  | cons (e : E) (r : Es)
inductive Op where
  | no
  | so (e : E)
/-- what is walked -/
inductive It where
  | seq (e : E)
  | rng1 (a : E)
  | rng2 (a b : E)
  | rng3 (a b c : E)
  | enum (e : E)
  | zip (a b : E)
  | keys (e : E)
  | vals (e : E)
  | items (e : E)
/-- targets -/
inductive Tg where
  | var (i : Nat)
  | tup (ts : Tgs)
  | sub (o i : E)
  | fld (o : E) (f : Nat)
inductive Tgs where
  | nil
  | cons (t : Tg) (r : Tgs)
end
mutual
inductive S where
  | expr (e : E)
  | asg (t : Tg) (e : E)
  | aug (o : B2) (i : Nat) (e : E)
  | augF (o : B2) (a : E) (f : Nat) (e : E)
  | augS (o : B2) (a i : E) (e : E)
  | ret (e : E)
  | ret0
  | iff (c : E) (a b : Ss)
  | whil (n : Nat) (c : E) (a : Ss)
  | forr (t : Tg) (it : It) (a : Ss)
  | tryy (a : Ss) (h : Hs)
  | rais (c : Nat) (e : E)
  | del (o i : E)
  | brk
  | cnt
  | pass
  | lkd (i : Nat) (f : Option Nat) (a : S)
inductive Ss where
  | nil
  | cons (s : S) (r : Ss)
/-- except clauses: the class, what is done -/
inductive Hs where
  | nil
  | ret (c : Nat) (k : Kc) (r : Hs)
  | cnt (c : Nat) (r : Hs)
  | fld (c : Nat) (f : Nat) (r : Hs)
end
/-! ### data -/
mutual
def W.beq : W → W → Bool
  | .non, .non => true
  | .bl a, .bl b => a == b
  | .int i, .int j => decide (i = j)
  | .str s, .str t => decide (s = t)
  | .tup xs, .tup ys => beqL xs ys
  | .lst xs, .lst ys => beqL xs ys
  | .dct xs, .dct ys => beqD xs ys
  | .obj c xs, .obj d ys => decide (c = d) && beqF xs ys
  | .ref n, .ref m => decide (n = m)
  | .ctp xs, .ctp ys => beqL xs ys
  | _, _ => false
def beqL : List W → List W → Bool
  | [], [] => true
  | x :: xs, y :: ys => W.beq x y && beqL xs ys
  | _, _ => false
def beqD : List (Ky × W) → List (Ky × W) → Bool
  | [], [] => true
  | (k, x) :: xs, (l, y) :: ys => decide (k = l) && (W.beq x y && beqD xs ys)
  | _, _ => false
def beqF : List (Nat × W) → List (Nat × W) → Bool
  | [], [] => true
  | (k, x) :: xs, (l, y) :: ys => decide (k = l) && (W.beq x y && beqF xs ys)
  | _, _ => false
end
/-! plain data at most d deep -/
mutual
def dataW : Nat → W → Bool
  | _, .non => true
  | _, .bl _ => true
  | _, .int _ => true
  | _, .str s => s.all fun c => decide (c < 1114112)
  | d + 1, .tup xs => dataL d xs
  | d + 1, .lst xs => dataL d xs
  | _, _ => false
def dataL : Nat → List W → Bool
  | _, [] => true
  | d, x :: xs => dataW d x && dataL d xs
end
/-! == of plain data -/
mutual
def eqW : W → W → Bool
  | .non, .non => true
  | .bl a, .bl b => a == b
  | .bl a, .int j => decide ((if a then 1 else 0) = j)
  | .int i, .bl b => decide (i = (if b then 1 else 0))
  | .int i, .int j => decide (i = j)
  | .str s, .str t => decide (s = t)
  | .tup xs, .tup ys => eqL xs ys
  | .lst xs, .lst ys => eqL xs ys
  | _, _ => false
def eqL : List W → List W → Bool
  | [], [] => true
  | x :: xs, y :: ys => eqW x y && eqL xs ys
  | _, _ => false
end

/-! ### the text -/
structure Fn where
  slots : Nat
  pars : Nat
  body : Ss
  frz : Bool
structure Pg where
  con : Nat → W
  ini : Nat → Nat
  frz : Nat → Bool
  mth : Nat → Nat → Option Nat
  fns : Nat → Option Fn
  sub : Nat → Nat → Option Bool
  xfl : Nat → Option Nat
  nat : Nat → Nat → Bool
abbrev F := Nat → List W → Option (M W) → M W
abbrev line : Nat := PySem.sizeLine
/-! ### values -/
def isNonW : W → Bool
  | .non => true
  | _ => false
def kcW : Kc → W
  | .non => .non
  | .bl b => .bl b
  | .int i => .int i
  | .str s => .str s
def k1W : K1 → W
  | .int i => .int i
  | .str s => .str s
def kyW : Ky → W
  | .one k => k1W k
  | .many ks => .tup (ks.map k1W)
def toK1 : W → Option K1
  | .int i => some (.int i)
  | .str s => some (.str s)
  | _ => none
def toK1s : List W → Option (List K1)
  | [] => some []
  | x :: xs => match toK1 x, toK1s xs with
    | some k, some ks => some (k :: ks)
    | _, _ => none
def toKy : W → Option Ky
  | .int i => some (.one (.int i))
  | .str s => some (.one (.str s))
  | .tup xs => (toK1s xs).map .many
  | _ => none
def getK (k : Ky) : List (Ky × W) → Option W
  | [] => none
  | (l, x) :: r => if l = k then some x else getK k r
def hasK (k : Ky) (kvs : List (Ky × W)) : Bool := kvs.any fun p => decide (p.1 = k)
def putK (k : Ky) (v : W) (kvs : List (Ky × W)) : List (Ky × W) :=
  if hasK k kvs = true then kvs.map (fun p => if p.1 = k then (p.1, v) else p) else kvs ++ [(k, v)]
def delK (k : Ky) (kvs : List (Ky × W)) : List (Ky × W) := kvs.filter fun p => decide (p.1 ≠ k)
/-- the key is of the keys' kind -/
def kyOk : Ky → List (Ky × W) → Bool
  | _, [] => true
  | .one _, (.one _, _) :: _ => true
  | .many _, (.many _, _) :: _ => true
  | _, _ => false
def getF (f : Nat) : List (Nat × W) → Option W
  | [] => none
  | (g, x) :: r => if g = f then some x else getF f r
def putF (f : Nat) (v : W) : List (Nat × W) → List (Nat × W)
  | [] => [(f, v)]
  | (g, x) :: r => if g = f then (g, v) :: r else (g, x) :: putF f v r
/-- a list, by its place or frozen -/
def lstOf (s : Sto) : W → Option (List W)
  | .lst xs => some xs
  | .ref n => match s.get n with
    | some (.lst xs) => some xs
    | _ => none
  | _ => none
def dctOf (s : Sto) : W → Option (List (Ky × W))
  | .dct kvs => some kvs
  | .ref n => match s.get n with
    | some (.dct lk kvs) => if lk && kvs.isEmpty then none else some kvs
    | _ => none
  | _ => none
def insOf (s : Sto) : W → Option (Nat × List (Nat × W))
  | .obj c fs => some (c, fs)
  | .ref n => match s.get n with
    | some (.ins c fs) => some (c, fs)
    | _ => none
  | _ => none
/-- a list or a tuple -/
def seqOf (s : Sto) : W → Option (List W)
  | .tup xs => some xs
  | .ctp xs => some xs
  | w => lstOf s w
/-- what tuple takes -/
def tupOf (s : Sto) : W → Option (List W)
  | .ctp _ => none
  | w => seqOf s w
/-- data, a live list told -/
def datOf (s : Sto) : W → Option W
  | .ref n => match s.get n with
    | some (.lst xs) => if dataL 48 xs then some (.lst xs) else none
    | _ => none
  | w => if dataW 49 w then some w else none
def truW (s : Sto) : W → Option Bool
  | .non => some false
  | .bl b => some b
  | .int i => some (i != 0)
  | .str t => if t.length ≤ line then some (!t.isEmpty) else none
  | .tup xs => some (!xs.isEmpty)
  | w => match lstOf s w with
    | some xs => some (!xs.isEmpty)
    | none => none
/-- what raises nothing -/
abbrev Op1 (α : Type) := Sto → Option (α × Sto)
def Op1.ret {α : Type} (a : α) : Op1 α := fun s => some (a, s)
def Op1.of {α : Type} (o : Option α) : Op1 α := fun s => match o with
  | some a => some (a, s)
  | none => none
def M.op {α : Type} (m : Op1 α) : M α := fun s => match m s with
  | some (a, s') => some (.ok a, s')
  | none => none
def truM (w : W) : Op1 Bool := fun s => Op1.of (truW s w) s
def M.tru (w : W) : M Bool := M.op (truM w)
def M.get : M Sto := fun s => some (.ok s, s)
def alloc (o : SO) : Op1 W := fun s => some (.ref s.nxt, s.new o)
def mkL (m : Bool) (xs : List W) : Op1 W := fun s => if xs.length ≤ line then (if m then alloc (.lst xs) s else some (.lst xs, s)) else none
def smallI (i : Int) : Bool := decide (-(2 ^ 64) < i) && decide (i < 2 ^ 64)
def b2W (o : B2) (x y : W) : Op1 W := fun s =>
  match o, x, y with
  | .add, .int i, .int j => Op1.ret (.int (i + j)) s
  | .add, .str a, .str b => if a.length + b.length ≤ line then Op1.ret (.str (a ++ b)) s else none
  | .add, .tup a, .tup b => if a.length + b.length ≤ line then Op1.ret (.tup (a ++ b)) s else none
  | .add, x, y => match lstOf s x, lstOf s y with
    | some a, some b => if a.length + b.length ≤ line then Op1.ret (.lst (a ++ b)) s else none
    | _, _ => none
  | .sub, .int i, .int j => Op1.ret (.int (i - j)) s
  | .mul, .int i, .int j => if smallI i || smallI j then Op1.ret (.int (i * j)) s else none
  | .mul, x, .int k => match lstOf s x with
    | some a => if decide (-(2 ^ 62) < k) && (decide (k < 2 ^ 62) && decide (a.length * k.toNat ≤ line)) then Op1.ret (.lst (List.replicate k.toNat a).flatten) s else none
    | none => none
  | .fdiv, .int i, .int j => if 0 < j ∧ j < 2 ^ 64 then Op1.ret (.int (i / j)) s else none
  | .md, .int i, .int j => if 0 < j then Op1.ret (.int (i % j)) s else none
  | .pow, .int i, .int j => if 0 ≤ j ∧ j ≤ 1000 ∧ i.natAbs < 2 ^ 64 then Op1.ret (.int (i ^ j.toNat)) s else none
  | _, _, _ => none
/-- x op= y, of what is no list -/
def augW (o : B2) (x y : W) : Op1 W := fun s =>
  match o, x, y with
  | .add, .int i, .int j => Op1.ret (.int (i + j)) s
  | .sub, .int i, .int j => Op1.ret (.int (i - j)) s
  | .mul, .int i, .int j => if smallI i || smallI j then Op1.ret (.int (i * j)) s else none
  | .fdiv, .int i, .int j => if 0 < j ∧ j < 2 ^ 64 then Op1.ret (.int (i / j)) s else none
  | .add, .str a, .str b => if a.length + b.length ≤ line then Op1.ret (.str (a ++ b)) s else none
  | _, _, _ => none
def ltL : List Nat → List Nat → Bool
  | _, [] => false
  | [], _ :: _ => true
  | a :: as, b :: bs => if a < b then true else if b < a then false else ltL as bs
def inW (s : Sto) (x y : W) : Option Bool := match y with
  | .str t => (match x with
    | .str [c] => some (decide (c ∈ t))
    | _ => none)
  | _ => match dctOf s y with
    | some kvs => (toKy x).bind fun k => if kyOk k kvs = true then some (getK k kvs).isSome else none
    | none => match seqOf s y, datOf s x with
      | some ys, some x' => if dataL 48 ys then some (ys.any fun y => eqW y x') else none
      | _, _ => none
def eqC (s : Sto) (x y : W) : Option Bool := match x, y with
  | .str a, .str b => some (decide (a = b))
  | x, y => match datOf s x, datOf s y with
    | some a, some b => some (eqW a b)
    | _, _ => match dctOf s x, dctOf s y with
      | some [], some [] => some true
      | _, _ => none
def c2B (o : C2) (s : Sto) (x y : W) : Option Bool := match o, x, y with
  | .eq, x, y => eqC s x y
  | .ne, x, y => (eqC s x y).map not
  | .lt, .int i, .int j => some (decide (i < j))
  | .le, .int i, .int j => some (decide (i ≤ j))
  | .gt, .int i, .int j => some (decide (j < i))
  | .ge, .int i, .int j => some (decide (j ≤ i))
  | .isin, x, y => inW s x y
  | .notin, x, y => (inW s x y).map not
  | _, _, _ => none
def c2W (o : C2) (x y : W) : Op1 W := fun s => Op1.of ((c2B o s x y).map W.bl) s
def idxW (x y : W) : Op1 W := fun s => match dctOf s x with
  | some kvs => Op1.of ((toKy y).bind fun k => if kyOk k kvs = true then getK k kvs else none) s
  | none => match x, y with
    | .str t, .int i => if t.length ≤ line then Op1.of ((L2.atI t i).map fun c => .str [c]) s else none
    | x, .int i => Op1.of ((seqOf s x).bind fun xs => L2.atI xs i) s
    | _, _ => none
def cutL {α : Type} (xs : List α) (lo hi : Option Int) : List α :=
  (xs.drop (HT.sIx xs.length 0 lo)).take (HT.sIx xs.length xs.length hi - HT.sIx xs.length 0 lo)
def slcW (x : W) (lo hi : Option Int) : Op1 W := fun s => match x with
  | .str t => if t.length ≤ line then some (.str (cutL t lo hi), s) else none
  | .tup xs => some (.tup (cutL xs lo hi), s)
  | x => match lstOf s x with
    | some xs => some (.lst (cutL xs lo hi), s)
    | none => none
def rangeL : Int → Nat → List W
  | _, 0 => []
  | lo, n + 1 => .int lo :: rangeL (lo + 1) n
def smallR (i : Int) : Bool := decide (-(2 ^ 62) ≤ i) && decide (i < 2 ^ 62)
def intsOf : List W → Option (List Int)
  | [] => some []
  | .int i :: r => (intsOf r).map fun is => i :: is
  | _ => none
def maxL : Int → List Int → Int
  | m, [] => m
  | m, i :: r => maxL (if m < i then i else m) r
def minL : Int → List Int → Int
  | m, [] => m
  | m, i :: r => minL (if i < m then i else m) r
def insI (i : Int) : List Int → List Int
  | [] => [i]
  | j :: r => if i ≤ j then i :: j :: r else j :: insI i r
def sortI : List Int → List Int
  | [] => []
  | i :: r => insI i (sortI r)
/-- what sorted, max, min take: items of a list, the keys of a dict -/
def itemsOf (s : Sto) (x : W) : Option (List W) := match dctOf s x with
  | some kvs => some (kvs.map fun p => kyW p.1)
  | none => lstOf s x
/-- texts -/
def strsOf : List W → Option (List (List Nat))
  | [] => some []
  | .str t :: r => (strsOf r).map fun is => t :: is
  | _ => none
def insB {α : Type} (lt : α → α → Bool) (t : α) : List α → List α
  | [] => [t]
  | u :: r => if lt u t then u :: insB lt t r else t :: u :: r
def sortB {α : Type} (lt : α → α → Bool) : List α → List α
  | [] => []
  | t :: r => insB lt t (sortB lt r)
def sortS (l : List (List Nat)) : List (List Nat) := sortB PyProof.Rows.strKind.blt l
/-! tuples of ints and texts -/
def tupsOf : List W → Option (List (List K1))
  | [] => some []
  | .tup xs :: r => (toK1s xs).bind fun k => (tupsOf r).map fun ks => k :: ks
  | _ => none
def sameK : K1 → K1 → Bool
  | .int _, .int _ => true
  | .str _, .str _ => true
  | _, _ => false
def sameKs : List K1 → List K1 → Bool
  | [], [] => true
  | a :: as, b :: bs => sameK a b && sameKs as bs
  | _, _ => false
def k1S : K1 → Int ⊕ List Nat
  | .int i => .inl i
  | .str s => .inr s
def ltKs (a b : List K1) : Bool := PyProof.Rows.lexLt PyProof.Rows.itemOrd (a.map k1S) (b.map k1S)
def sortK (l : List (List K1)) : List (List K1) := sortB ltKs l
def tupsOk : List (List K1) → Bool
  | [] => true
  | [] :: _ => false
  | (a :: as) :: r => r.all fun u => sameKs (a :: as) u
def sumW : Int → List W → Option Int
  | a, [] => some a
  | a, .int i :: r => sumW (a + i) r
  | _, _ => none
/-- what dict takes: pairs -/
def rawP : List W → Option (List (Ky × W))
  | [] => some []
  | .tup [k, v] :: r => (toKy k).bind fun k => (rawP r).map fun q => (k, v) :: q
  | _ => none
def isOne : Ky → Bool
  | .one _ => true
  | .many _ => false
def putAll (acc q : List (Ky × W)) : List (Ky × W) := q.foldl (fun acc p => putK p.1 p.2 acc) acc
def pairsOf (xs : List W) : Option (List (Ky × W)) := (rawP xs).bind fun q => if q.all (fun p => isOne p.1) || q.all (fun p => !isOne p.1) then some (putAll [] q) else none
def biW (b : Bi) (xs : List W) : Op1 W := fun s => match b, xs with
  | .len, [.str t] => if t.length ≤ line then Op1.ret (.int t.length) s else none
  | .len, [x] => (match dctOf s x with
    | some kvs => Op1.ret (.int kvs.length) s
    | none => Op1.of ((seqOf s x).map fun ys => .int ys.length) s)
  | .int, [.int i] => Op1.ret (.int i) s
  | .int, [.bl b] => Op1.ret (.int (if b then 1 else 0)) s
  | .abs, [.int i] => Op1.ret (.int (if i < 0 then -i else i)) s
  | .min2, [.int i, .int j] => Op1.ret (.int (if j < i then j else i)) s
  | .max2, [.int i, .int j] => Op1.ret (.int (if i < j then j else i)) s
  | .min1, [x] => Op1.of ((lstOf s x).bind fun ys => (intsOf ys).bind fun is => match is with
    | [] => none
    | i :: r => some (.int (minL i r))) s
  | .max1, [x] => Op1.of ((lstOf s x).bind fun ys => (intsOf ys).bind fun is => match is with
    | [] => none
    | i :: r => some (.int (maxL i r))) s
  | .maxd, [x, d] => Op1.of ((itemsOf s x).bind fun ys => (intsOf ys).bind fun is => match is with
    | [] => some d
    | i :: r => some (.int (maxL i r))) s
  | .sum, [x] => Op1.of ((lstOf s x).bind fun ys => (sumW 0 ys).map .int) s
  | .sorted, [x] => Op1.of ((itemsOf s x).bind fun ys => (intsOf ys).bind fun is => if is.length < 64 then some (.lst ((sortI is).map .int)) else none) s
  | .sortS, [x] => Op1.of ((itemsOf s x).bind fun ys => (strsOf ys).bind fun is => if is.length < 64 then some (.lst ((sortS is).map .str)) else none) s
  | .sortT, [x] => Op1.of ((itemsOf s x).bind fun ys => (tupsOf ys).bind fun is => if tupsOk is && decide (is.length < 64) then some (.lst ((sortK is).map fun k => .tup (k.map k1W))) else none) s
  | .dict, [x] => (match (lstOf s x).bind pairsOf with
    | some kvs => if kvs.length ≤ line then alloc (.dct false kvs) s else none
    | none => none)
  | .listd m, [x] => (match dctOf s x with
    | some kvs => mkL m (kvs.map fun p => kyW p.1) s
    | none => none)
  | .tuple, [x] => Op1.of ((tupOf s x).map .tup) s
  | .list m, [x] => (match seqOf s x with
    | some ys => mkL m ys s
    | none => none)
  | .lrange m, [.int i] => if smallR i && decide (i ≤ line) then mkL m (rangeL 0 i.toNat) s else none
  | _, _ => none
def joinL (sep : List Nat) : List W → Option (List Nat)
  | [] => some []
  | [.str t] => some t
  | .str t :: r => (joinL sep r).map fun u => t ++ (sep ++ u)
  | _ => none
def bmW (b : Bm) (x : W) (ys : List W) : Op1 W := fun s => match b, x, ys with
  | .append, .ref n, [y] => (match s.get n with
    | some (.lst xs) => if xs.length < line then some (.non, s.set n (.lst (xs ++ [y]))) else none
    | _ => none)
  | .pop1, .ref n, [.int i] => (match s.get n with
    | some (.lst xs) => if 0 ≤ i ∧ i < 2 ^ 62 then (match xs[i.toNat]? with
      | some y => some (y, s.set n (.lst (xs.eraseIdx i.toNat)))
      | none => none) else none
    | some (.dct false kvs) => (match getK (.one (.int i)) kvs with
      | some y => some (y, s.set n (.dct false (delK (.one (.int i)) kvs)))
      | none => none)
    | _ => none)
  | .join, .str sep, [y] => Op1.of ((seqOf s y).bind fun zs => (joinL sep zs).bind fun t => if t.length + zs.length ≤ line then some (.str t) else none) s
  | _, _, _ => none
def stS (o i v : W) : Op1 Unit := fun s => match o with
  | .ref n => (match s.get n, i with
    | some (.lst xs), .int k => (match (if 0 ≤ k then some k.toNat else if 0 ≤ k + xs.length then some (k + xs.length).toNat else none) with
      | some j => if j < xs.length then some ((), s.set n (.lst (xs.set j v))) else none
      | none => none)
    | some (.dct false kvs), i => (match toKy i with
      | some k => if kyOk k kvs = true ∧ kvs.length < line then some ((), s.set n (.dct false (putK k v kvs))) else none
      | none => none)
    | _, _ => none)
  | _ => none
/-- del o[i] -/
def delW (u j : W) (s : Sto) : Option Sto := match u with
  | .ref n => (match s.get n, toKy j with
    | some (.dct false kvs), some (.one k) => (match getK (.one k) kvs with
      | some _ => some (s.set n (.dct false (delK (.one k) kvs)))
      | none => none)
    | _, _ => none)
  | _ => none
/-- d.get(k, x) -/
def get2W (u y z : W) : Op1 W := fun s => match dctOf s u, toKy y with
  | some kvs, some k => if kyOk k kvs = true then some ((getK k kvs).getD z, s) else none
  | _, _ => none
def stF (P : Pg) (o : W) (f : Nat) (v : W) : Op1 Unit := fun s => match o with
  | .ref n => (match s.get n with
    | some (.ins c fs) => if P.nat c f = true ∧ fs.length < 900 then some ((), s.set n (.ins c (putF f v fs))) else none
    | _ => none)
  | _ => none
def fldW (P : Pg) (x : W) (f : Nat) : Op1 W := fun s => Op1.of ((insOf s x).bind fun p => if P.nat p.1 f = true then getF f p.2 else none) s
/-- a live list or instance becomes frozen -/
def frzW (x : W) : Op1 W := fun s => match x with
  | .ref n => (match s.get n with
    | some (.lst xs) => some ((.lst xs), s.del n)
    | some (.dct false kvs) => some ((.dct kvs), s.del n)
    | some (.ins c fs) => some ((.obj c fs), s.del n)
    | _ => none)
  | x => some (x, s)
structure Src where
  items : List W
  grd : Sto → Bool
def srcW (x : W) : Op1 Src := fun s => match x with
  | .str t => some (⟨t.map fun c => .str [c], fun _ => true⟩, s)
  | .tup xs => some (⟨xs, fun _ => true⟩, s)
  | .ctp xs => some (⟨xs, fun _ => true⟩, s)
  | .lst xs => some (⟨xs, fun _ => true⟩, s)
  | .ref n => (match s.get n with
    | some (.lst xs) => some (⟨xs, fun s' => match s'.get n with
      | some (.lst ys) => beqL ys xs
      | _ => false⟩, s)
    | _ => none)
  | _ => none
/-- views of a locked dict -/
def vwW (f : List (Ky × W) → List W) (x : W) : Op1 Src := fun s => match x with
  | .ref n => (match s.get n with
    | some (.dct true kvs) => some (⟨f kvs, fun s' => match s'.get n with
      | some (.dct true q) => beqD q kvs
      | _ => false⟩, s)
    | _ => none)
  | _ => none
def keysV (kvs : List (Ky × W)) : List W := kvs.map fun p => kyW p.1
def valsV (kvs : List (Ky × W)) : List W := kvs.map fun p => p.2
def itemsV (kvs : List (Ky × W)) : List W := kvs.map fun p => .tup [kyW p.1, p.2]
/-- the dict that is locked -/
def lkN (ρ : Env) (i : Nat) (f : Option Nat) (s : Sto) : Option (Nat × Bool × List (Ky × W)) := match ρ[i]?.join with
  | none => none
  | some w => match (match f with
    | none => some w
    | some g => (insOf s w).bind fun p => getF g p.2) with
    | some (.ref n) => (match s.get n with
      | some (.dct lk kvs) => some (n, lk, kvs)
      | _ => none)
    | _ => none
def unlk (n : Nat) (s : Sto) : Option Sto := match s.get n with
  | some (.dct true kvs) => some (s.set n (.dct false kvs))
  | _ => none
def M.lock {α : Type} (ρ : Env) (i : Nat) (f : Option Nat) (m : M α) : M α := fun s => match lkN ρ i f s with
  | some (_, true, _) => m s
  | some (n, false, kvs) => (match m (s.set n (.dct true kvs)) with
    | some (.ok a, s') => (match unlk n s' with
      | some s2 => some (.ok a, s2)
      | none => none)
    | _ => none)
  | none => none
/-- a in d.values(), whole numbers -/
def inVW (x d : W) : Op1 Bool := fun s => match dctOf s d, x with
  | some kvs, .int i => (match intsOf (valsV kvs) with
    | some is => some (is.any fun j => decide (j = i), s)
    | none => none)
  | _, _ => none
def enumL : Nat → List W → List W
  | _, [] => []
  | k, x :: r => .tup [.int k, x] :: enumL (k + 1) r
/-- what enumerate takes -/
def srcL (x : W) : Op1 Src := fun s => match x with
  | .lst xs => some (⟨enumL 0 xs, fun _ => true⟩, s)
  | .ref n => (match s.get n with
    | some (.lst xs) => some (⟨enumL 0 xs, fun s' => match s'.get n with
      | some (.lst ys) => beqL ys xs
      | _ => false⟩, s)
    | _ => none)
  | _ => none
mutual
/-- the names a target stores -/
def tgSlots : Tg → List Nat
  | .var i => [i]
  | .tup ts => tgsSlots ts
  | .sub _ _ => []
  | .fld _ _ => []
def tgsSlots : Tgs → List Nat
  | .nil => []
  | .cons t r => tgSlots t ++ tgsSlots r
end
def wipeE (ρ : Env) : List Nat → Env
  | [] => ρ
  | v :: vs => (wipeE ρ vs).set v none
def consO : Option W → List W → List W
  | some y, ys => y :: ys
  | none, ys => ys
/-- the items of a comprehension -/
def M.gather (g : W → M (Option W)) (ok : Sto → Bool) : List W → M (List W)
  | [] => M.ret []
  | x :: r => M.bind (g x) fun o => M.bind M.get fun s => if ok s then M.bind (M.gather g ok r) fun ys => M.ret (consO o ys) else M.no
/-- any, all, sum over a generator expression -/
def M.genAny (g : W → M (Option W)) (ok : Sto → Bool) : List W → M W
  | [] => M.ret (.bl false)
  | x :: r => M.bind (g x) fun o => M.bind M.get fun s => if ok s then (match o with
    | some y => M.bind (M.tru y) fun b => if b then M.ret (.bl true) else M.genAny g ok r
    | none => M.genAny g ok r) else M.no
def M.genAll (g : W → M (Option W)) (ok : Sto → Bool) : List W → M W
  | [] => M.ret (.bl true)
  | x :: r => M.bind (g x) fun o => M.bind M.get fun s => if ok s then (match o with
    | some y => M.bind (M.tru y) fun b => if b then M.genAll g ok r else M.ret (.bl false)
    | none => M.genAll g ok r) else M.no
def M.genSum (g : W → M (Option W)) (ok : Sto → Bool) : Int → List W → M W
  | a, [] => M.ret (.int a)
  | a, x :: r => M.bind (g x) fun o => M.bind M.get fun s => if ok s then (match o with
    | some (.int i) => M.genSum g ok (a + i) r
    | some _ => M.no
    | none => M.genSum g ok a r) else M.no
end Mn

end

section
set_option Elab.async false
set_option linter.all false
set_option maxRecDepth 100000
/-! Mini: how the small machine runs. -/
namespace Mn
def atT : List F → Nat → F
  | [], _ => fun _ _ _ _ => none
  | f :: _, 0 => f
  | _ :: r, n + 1 => atT r n
/-- no exception leaves -/
def M.calm {α : Type} (m : M α) : M α := fun s => match m s with
  | some (.ok a, s') => some (.ok a, s')
  | _ => none
def M.thunk : Option (M W) → M W
  | some m => m
  | none => M.no
/-- a new instance -/
def M.make (P : Pg) (f : F) (c : Nat) (xs : List W) : M W := fun s =>
  M.bind (f (P.ini c) (.ref s.nxt :: xs) none) (fun v => match v with
    | .non => if P.frz c then M.op (frzW (.ref s.nxt)) else M.ret (.ref s.nxt)
    | _ => M.no) (s.new (.ins c []))
def methOf (P : Pg) (m : Nat) : Option (Nat × List (Nat × W)) → Option Nat
  | some (c, fs) => match getF m fs with
    | none => P.mth c m
    | some _ => none
  | none => none
def setE (ρ : Env) (i : Nat) (w : W) : Env := ρ.set i (some w)
mutual
def ev (P : Pg) : List F → Option (M W) → E → Env → M W
  | _, _, .cst k, _ => M.ret (kcW k)
  | _, _, .var i, ρ => M.of (ρ[i]?.join)
  | _, _, .glob g, _ => M.ret (P.con g)
  | tw, th, .bin o a b, ρ => M.bind (ev P tw th a ρ) fun x => M.bind (ev P tw th b ρ) fun y => M.op (b2W o x y)
  | tw, th, .neg a, ρ => M.bind (ev P tw th a ρ) fun x => match x with
    | .int i => M.ret (.int (-i))
    | _ => M.no
  | tw, th, .cmp o a b, ρ => M.bind (ev P tw th a ρ) fun x => M.bind (ev P tw th b ρ) fun y => M.op (c2W o x y)
  | tw, th, .chn o p a b c, ρ => M.bind (ev P tw th a ρ) fun x => M.bind (ev P tw th b ρ) fun y => M.bind (M.op (c2W o x y)) fun z => match z with
    | .bl true => M.bind (ev P tw th c ρ) fun u => M.op (c2W p y u)
    | .bl false => M.ret (.bl false)
    | _ => M.no
  | tw, th, .isN t a, ρ => M.bind (ev P tw th a ρ) fun x => M.ret (.bl (if isNonW x then t else !t))
  | tw, th, .and_ a b, ρ => M.bind (ev P tw th a ρ) fun x => M.bind (M.tru x) fun t => if t then ev P tw th b ρ else M.ret x
  | tw, th, .or_ a b, ρ => M.bind (ev P tw th a ρ) fun x => M.bind (M.tru x) fun t => if t then M.ret x else ev P tw th b ρ
  | tw, th, .not_ a, ρ => M.bind (ev P tw th a ρ) fun x => M.bind (M.tru x) fun t => M.ret (.bl (!t))
  | tw, th, .ite c a b, ρ => M.bind (ev P tw th c ρ) fun x => M.bind (M.tru x) fun t => if t then ev P tw th a ρ else ev P tw th b ρ
  | tw, th, .tup es, ρ => M.bind (evs P tw th es ρ) fun xs => if xs.length ≤ line then M.ret (.tup xs) else M.no
  | tw, th, .lst m es, ρ => M.bind (evs P tw th es ρ) fun xs => M.op (mkL m xs)
  | _, _, .dct0, _ => M.op (alloc (.dct false []))
  | tw, th, .fld a f, ρ => M.bind (ev P tw th a ρ) fun x => M.op (fldW P x f)
  | tw, th, .idx a b, ρ => M.bind (ev P tw th a ρ) fun x => M.bind (ev P tw th b ρ) fun y => M.op (idxW x y)
  | tw, th, .slc a lo hi, ρ => M.bind (ev P tw th a ρ) fun x => M.bind (evo P tw th lo ρ) fun l => M.bind (evo P tw th hi ρ) fun h => M.op (slcW x l h)
  | tw, th, .call f es, ρ => M.bind (evs P tw th es ρ) fun xs => atT tw 0 f xs none
  | tw, th, .new c es, ρ => M.bind (evs P tw th es ρ) fun xs => M.make P (atT tw 1) c xs
  | tw, th, .meth a m es, ρ => M.bind (ev P tw th a ρ) fun o => M.bind (fun s => M.of (methOf P m (insOf s o)) s) fun g => M.bind (evs P tw th es ρ) fun xs => atT tw 0 g (o :: xs) none
  | tw, th, .bi b es, ρ => M.bind (evs P tw th es ρ) fun xs => M.op (biW b xs)
  | tw, th, .bm b a es, ρ => M.bind (ev P tw th a ρ) fun x => M.bind (evs P tw th es ρ) fun xs => M.op (bmW b x xs)
  | tw, th, .comp m elt t it ts, ρ => M.bind (evi P tw th it ρ) fun src => M.bind (M.calm (M.gather (fun x => M.bind (asgT P tw th t x (wipeE ρ (tgSlots t))) fun ρ' => M.bind (tst P tw th ts ρ') fun b => if b then M.bind (ev P tw th elt ρ') fun y => M.ret (some y) else M.ret none) src.grd src.items)) fun ys => M.op (mkL m ys)
  | tw, th, .comp2 m elt t it t2 it2, ρ => M.bind (evi P tw th it ρ) fun src => M.bind (M.calm (M.gather (fun x => M.bind (asgT P tw th t x (wipeE ρ (tgSlots t ++ tgSlots t2))) fun ρ' => M.bind (evi P tw th it2 ρ') fun src2 => M.bind (M.gather (fun x2 => M.bind (asgT P tw th t2 x2 ρ') fun ρ2 => M.bind (ev P tw th elt ρ2) fun y => M.ret (some y)) src2.grd src2.items) fun ys => M.ret (some (.tup ys))) src.grd src.items)) fun yss => M.op (mkL m (yss.flatMap fun w => match w with
    | .tup ys => ys
    | _ => []))
  | tw, th, .gen k elt t it ts, ρ => M.bind (evi P tw th it ρ) fun src =>
      let g := fun x => M.bind (asgT P (tw.drop 2) th t x (wipeE ρ (tgSlots t))) fun ρ' => M.bind (tst P (tw.drop 2) th ts ρ') fun b => if b then M.bind (ev P (tw.drop 2) th elt ρ') fun y => M.ret (some y) else M.ret none
      M.calm (match k with
        | .any => M.genAny g src.grd src.items
        | .all => M.genAll g src.grd src.items
        | .sum => M.genSum g src.grd 0 src.items)
  | tw, _, .lam f body, ρ => atT tw 0 f [] (some (ev P (tw.drop 2) none body ρ))
  | _, th, .thk, _ => M.thunk th
  | tw, th, .lkd i f e, ρ => M.lock ρ i f (ev P tw th e ρ)
  | tw, th, .inV t a d, ρ => M.bind (ev P tw th a ρ) fun x => M.bind (ev P tw th d ρ) fun y => M.bind (M.op (inVW x y)) fun b => M.ret (.bl (if b then t else !t))
  | tw, th, .litems m d, ρ => M.bind (ev P tw th d ρ) fun x => M.bind (fun s => M.of (dctOf s x) s) fun kvs => M.op (mkL m (itemsV kvs))
  | tw, th, .dget d k x, ρ => M.bind (ev P tw th d ρ) fun u => M.bind (fun s => M.of (dctOf s u) s) fun _ => M.bind (ev P tw th k ρ) fun y => M.bind (ev P tw th x ρ) fun z => M.op (get2W u y z)
def evs (P : Pg) : List F → Option (M W) → Es → Env → M (List W)
  | _, _, .nil, _ => M.ret []
  | tw, th, .cons e r, ρ => M.bind (ev P tw th e ρ) fun x => M.bind (evs P tw th r ρ) fun xs => M.ret (x :: xs)
def tst (P : Pg) : List F → Option (M W) → Es → Env → M Bool
  | _, _, .nil, _ => M.ret true
  | tw, th, .cons e r, ρ => M.bind (ev P tw th e ρ) fun x => M.bind (M.tru x) fun b => if b then tst P tw th r ρ else M.ret false
def evo (P : Pg) : List F → Option (M W) → Op → Env → M (Option Int)
  | _, _, .no, _ => M.ret none
  | tw, th, .so e, ρ => M.bind (ev P tw th e ρ) fun x => match x with
    | .int i => M.ret (some i)
    | _ => M.no
def evi (P : Pg) : List F → Option (M W) → It → Env → M Src
  | tw, th, .seq e, ρ => M.bind (ev P tw th e ρ) fun x => M.op (srcW x)
  | tw, th, .rng1 a, ρ => M.bind (ev P tw th a ρ) fun x => match x with
    | .int j => if smallR j then M.ret ⟨rangeL 0 j.toNat, fun _ => true⟩ else M.no
    | _ => M.no
  | tw, th, .rng2 a b, ρ => M.bind (ev P tw th a ρ) fun x => M.bind (ev P tw th b ρ) fun y => match x, y with
    | .int i, .int j => if smallR i && smallR j then M.ret ⟨rangeL i (j - i).toNat, fun _ => true⟩ else M.no
    | _, _ => M.no
  | _, _, .rng3 _ _ _, _ => M.no
  | tw, th, .enum e, ρ => M.bind (ev P tw th e ρ) fun x => M.op (srcL x)
  | _, _, .zip _ _, _ => M.no
  | tw, th, .keys e, ρ => M.bind (ev P tw th e ρ) fun x => M.op (vwW keysV x)
  | tw, th, .vals e, ρ => M.bind (ev P tw th e ρ) fun x => M.op (vwW valsV x)
  | tw, th, .items e, ρ => M.bind (ev P tw th e ρ) fun x => M.op (vwW itemsV x)
def asgT (P : Pg) : List F → Option (M W) → Tg → W → Env → M Env
  | _, _, .var i, x, ρ => M.ret (setE ρ i x)
  | tw, th, .tup ts, x, ρ => M.bind (fun s => M.of (seqOf s x) s) fun xs => asgTs P tw th ts xs ρ
  | tw, th, .sub o i, x, ρ => M.bind (ev P tw th o ρ) fun u => M.bind (ev P tw th i ρ) fun j => M.bind (M.op (stS u j x)) fun _ => M.ret ρ
  | tw, th, .fld o f, x, ρ => M.bind (ev P tw th o ρ) fun u => M.bind (M.op (stF P u f x)) fun _ => M.ret ρ
def asgTs (P : Pg) : List F → Option (M W) → Tgs → List W → Env → M Env
  | _, _, .nil, [], ρ => M.ret ρ
  | tw, th, .cons t r, x :: xs, ρ => M.bind (asgT P tw th t x ρ) fun ρ' => asgTs P tw th r xs ρ'
  | _, _, _, _, _ => M.no
end
/-- how a statement ends -/
inductive O where
  | nx (ρ : Env) | rt (w : W) | bk (ρ : Env) | ct (ρ : Env) | ex (e : Xn) (ρ : Env)
abbrev MO := Sto → Option (O × Sto)
def toO {α : Type} (ρ : Env) (m : M α) (k : α → MO) : MO := fun s => match m s with
  | none => none
  | some (.error e, s') => some (.ex e ρ, s')
  | some (.ok a, s') => k a s'
def MO.seq (m : MO) (k : Env → MO) : MO := fun s => match m s with
  | some (.nx ρ, s') => k ρ s'
  | r => r
/-- a for's turns -/
def turns (body : W → Env → MO) (ok : Sto → Bool) : List W → Env → MO
  | [], ρ => fun s => some (.nx ρ, s)
  | x :: r, ρ => fun s => match body x ρ s with
    | some (.nx ρ', s') => if ok s' then turns body ok r ρ' s' else none
    | some (.ct ρ', s') => if ok s' then turns body ok r ρ' s' else none
    | some (.bk ρ', s') => some (.nx ρ', s')
    | q => q
/-- a while's turns -/
def whiles (test : Env → M Bool) (body : Env → MO) : Nat → Env → MO
  | 0, _ => fun _ => none
  | n + 1, ρ => toO ρ (test ρ) fun b => if b then (fun s => match body ρ s with
    | some (.nx ρ', s') => whiles test body n ρ' s'
    | some (.ct ρ', s') => whiles test body n ρ' s'
    | some (.bk ρ', s') => some (.nx ρ', s')
    | q => q) else fun s => some (.nx ρ, s)
/-- the except clauses -/
def caught (P : Pg) (e : Xn) (ρ : Env) : Hs → MO
  | .nil => fun s => some (.ex e ρ, s)
  | .ret c k r => match P.sub e.c c with
    | some true => fun s => some (.rt (kcW k), s)
    | some false => caught P e ρ r
    | none => fun _ => none
  | .cnt c r => match P.sub e.c c with
    | some true => fun s => some (.ct ρ, s)
    | some false => caught P e ρ r
    | none => fun _ => none
  | .fld c f r => match P.sub e.c c with
    | some true => (match e.x with
      | some (g, w) => if g = f then fun s => some (.rt w, s) else fun _ => none
      | none => fun _ => none)
    | some false => caught P e ρ r
    | none => fun _ => none
def MO.lock (ρ : Env) (i : Nat) (f : Option Nat) (m : MO) : MO := fun s => match lkN ρ i f s with
  | some (_, true, _) => m s
  | some (n, false, kvs) => (match m (s.set n (.dct true kvs)) with
    | some (.ex _ _, _) => none
    | some (o, s') => (match unlk n s' with
      | some s2 => some (o, s2)
      | none => none)
    | none => none)
  | none => none
mutual
def ex (P : Pg) (tw : List F) (th : Option (M W)) : S → Env → MO
  | .expr e, ρ => toO ρ (ev P tw th e ρ) fun _ s => some (.nx ρ, s)
  | .asg t e, ρ => toO ρ (ev P tw th e ρ) fun x => toO ρ (M.calm (asgT P tw th t x ρ)) fun ρ' s => some (.nx ρ', s)
  | .aug o i e, ρ => toO ρ (M.of (ρ[i]?.join)) fun x => toO ρ (ev P tw th e ρ) fun y => toO ρ (M.op (augW o x y)) fun z s => some (.nx (setE ρ i z), s)
  | .augF o a f e, ρ => toO ρ (ev P tw th a ρ) fun u => toO ρ (M.op (fldW P u f)) fun x => toO ρ (ev P tw th e ρ) fun y => toO ρ (M.op (augW o x y)) fun z => toO ρ (M.op (stF P u f z)) fun _ s => some (.nx ρ, s)
  | .augS o a i e, ρ => toO ρ (ev P tw th a ρ) fun u => toO ρ (ev P tw th i ρ) fun j => toO ρ (M.op (idxW u j)) fun x => toO ρ (ev P tw th e ρ) fun y => toO ρ (M.op (augW o x y)) fun z => toO ρ (M.op (stS u j z)) fun _ s => some (.nx ρ, s)
  | .ret e, ρ => toO ρ (ev P tw th e ρ) fun x s => some (.rt x, s)
  | .ret0, _ => fun s => some (.rt .non, s)
  | .iff c a b, ρ => toO ρ (M.bind (ev P tw th c ρ) M.tru) fun t => if t then exs P tw th a ρ else exs P tw th b ρ
  | .whil n c a, ρ => whiles (fun ρ => M.bind (ev P tw th c ρ) M.tru) (fun ρ => exs P tw th a ρ) n ρ
  | .forr t it a, ρ => toO ρ (evi P tw th it ρ) fun src => turns (fun x ρ => toO ρ (M.calm (asgT P tw th t x ρ)) fun ρ' => exs P tw th a ρ') src.grd src.items ρ
  | .tryy a h, ρ => fun s => match exs P tw th a ρ s with
    | some (.ex e ρ', s') => caught P e ρ' h s'
    | r => r
  | .rais c e, ρ => toO ρ (ev P tw th e ρ) fun x s => match P.xfl c with
    | some f => some (.ex ⟨c, some (f, x)⟩ ρ, s)
    | none => some (.ex ⟨c, none⟩ ρ, s)
  | .del o i, ρ => toO ρ (ev P tw th o ρ) fun u => toO ρ (ev P tw th i ρ) fun j s => match delW u j s with
    | some s' => some (.nx ρ, s')
    | none => none
  | .brk, ρ => fun s => some (.bk ρ, s)
  | .cnt, ρ => fun s => some (.ct ρ, s)
  | .pass, ρ => fun s => some (.nx ρ, s)
  | .lkd i f a, ρ => MO.lock ρ i f (ex P tw th a ρ)
def exs (P : Pg) (tw : List F) (th : Option (M W)) : Ss → Env → MO
  | .nil, ρ => fun s => some (.nx ρ, s)
  | .cons a r, ρ => MO.seq (ex P tw th a ρ) fun ρ' => exs P tw th r ρ'
end
/-- a def runs -/
def run (P : Pg) (tw : List F) : F := fun f xs th s => match P.fns f with
  | none => none
  | some fn => if xs.length = (if th.isSome then 0 else fn.pars) then (match exs P tw th fn.body (xs.map some ++ List.replicate (fn.slots - xs.length) none) s with
    | some (.nx _, s') => some (.ok .non, s')
    | some (.rt w, s') => if fn.frz then M.op (frzW w) s' else some (.ok w, s')
    | some (.ex e _, s') => if th.isSome then none else some (.error e, s')
    | _ => none) else none
def tower (P : Pg) : Nat → List F
  | 0 => []
  | k + 1 => run P (tower P k) :: tower P k
end Mn

end

section
set_option Elab.async false
set_option linter.all false
set_option maxRecDepth 100000
/-! Mini: readings, expressions. -/
namespace Mn
open PySem PySem.Spec PyProof.Rows L2
theorem PE.imp {X : Cx} {e : PySem.Expr} {t t' : TE} (h : PE X e t) (hi : ∀ σ H Q, t' σ H Q → t σ H Q) : PE X e t' := ⟨fun pins s σ H Q I q => h.run pins s σ H Q I (hi σ H Q q)⟩
theorem PT.imp {X : Cx} {e : PySem.Expr} {t t' : TT} (h : PT X e t) (hi : ∀ σ H Q, t' σ H Q → t σ H Q) : PT X e t' := ⟨fun pins s σ H Q I q => h.run pins s σ H Q I (hi σ H Q q)⟩
theorem PW.imp {X : Cx} {e : PySem.Expr} {t t' : TT} (h : PW X e t) (hi : ∀ σ H Q, t' σ H Q → t σ H Q) : PW X e t' := ⟨fun wh pins s σ H Q I q => h.run wh pins s σ H Q I (hi σ H Q q)⟩
theorem PA.imp {X : Cx} {e : List PySem.Expr} {t t' : TA} (h : PA X e t) (hi : ∀ σ H Q, t' σ H Q → t σ H Q) : PA X e t' := ⟨fun p pins s σ H Q I q => h.run p pins s σ H Q I (hi σ H Q q)⟩
/-- the reading of an expression, a test, arguments -/
def tE (G : Gx) (Wx : WX) (r : Env → M W) : TE := fun σ H Q => ∃ R s ι ρ, Sim G R s ι H ∧ EnvD G R s ι H ρ σ ∧ Post G Wx σ R s ι H (r ρ s) fun w s' ι' H' => ∀ v, Den G (FzH G R s' ι' H') ι' w v → Q v H'
def tT (G : Gx) (Wx : WX) (r : Env → M Bool) : TT := fun σ H Q => ∃ R s ι ρ, Sim G R s ι H ∧ EnvD G R s ι H ρ σ ∧ Post G Wx σ R s ι H (r ρ s) fun b s' ι' H' => Q b H'
def tA (G : Gx) (Wx : WX) (r : Env → M (List W)) : TA := fun σ H Q => ∃ R s ι ρ, Sim G R s ι H ∧ EnvD G R s ι H ρ σ ∧ Post G Wx σ R s ι H (r ρ s) fun ws s' ι' H' => ∀ vs, DenL G (FzH G R s' ι' H') ι' ws vs → Q vs H'
section
variable {G : Gx} {R : List Addr} {Wx : WX} {σ : L2.St} {s : Sto} {ι : List Addr} {H : Hp} {α : Type}
theorem Post.op {m : Op1 α} {K : α → Sto → List Addr → Hp → Prop} (h : Post G Wx σ R s ι H (M.op m s) K) : ∃ a s', m s = some (a, s') ∧ ∀ ι' H', Step G R s ι H s' ι' H' → K a s' ι' H' := by
  unfold M.op at h
  cases e : m s with
  | none => rw [e] at h; exact h.elim
  | some p =>
    obtain ⟨a, s'⟩ := p
    rw [e] at h
    exact ⟨a, s', rfl, h⟩
end
def chkK : Kc → PySem.Const → Bool
  | .non, .none => true
  | .bl b, .bool d => b == d
  | .int i, .int l => decide (i = l)
  | .str t, .str z => decide (t = z.cps.toList)
  | _, _ => false
/-! ### rules by values -/
/-- a two-place operation by the small machine's -/
def r2 (G : Gx) (f : W → W → Op1 W) : R2 := fun x y H Q => ∃ R s ι a b w s', Sim G R s ι H ∧ Den G (FzH G R s ι H) ι a x ∧ Den G (FzH G R s ι H) ι b y ∧ f a b s = some (w, s') ∧ ∀ ι' H' v, Step G R s ι H s' ι' H' → Den G (FzH G R s' ι' H') ι' w v → Q v H'
section
variable {G : Gx} {Wx : WX} {X : Cx} {a b c : PySem.Expr} {ra rb rc : Env → M W} {pos : Pos} {f : W → W → Op1 W}
theorem bin_imp {σ : L2.St} {H : Hp} {Q : VK} (h : tE G Wx (fun ρ => M.bind (ra ρ) fun x => M.bind (rb ρ) fun y => M.op (f x y)) σ H Q) : tOp (r2 G f) (tE G Wx ra) (tE G Wx rb) σ H Q := by
  obtain ⟨R, s, ι, ρ, S, D, P⟩ := h
  refine ⟨R, s, ι, ρ, S, D, P.bind.mono fun x s1 ι1 H1 T1 P1 v1 d1 => ?_⟩
  refine ⟨R, s1, ι1, ρ, T1.sim, D.step T1, P1.bind.mono fun y s2 ι2 H2 T2 P2 v2 d2 => ?_⟩
  obtain ⟨w, s3, e, K⟩ := P2.op
  exact ⟨R, s2, ι2, x, y, w, s3, T2.sim, T2.den d1, d2, e, fun ι' H' v T d => K ι' H' T v d⟩
theorem pe_binW {op : Operator} (ho : OpR X (binaryOp op) (r2 G f)) (ha : PE X a (tE G Wx ra)) (hb : PE X b (tE G Wx rb)) :
    PE X (.BinOp a op b pos) (tE G Wx fun ρ => M.bind (ra ρ) fun x => M.bind (rb ρ) fun y => M.op (f x y)) :=
  PE.imp (pe_op ho ha hb) fun _ _ _ h => bin_imp h
theorem pe_cmpW {op : CmpOp} (ho : OpR X (compareOp op) (r2 G f)) (ha : PE X a (tE G Wx ra)) (hb : PE X b (tE G Wx rb)) (hm : behindInMarks op b = false) :
    PE X (.Compare a [op] [b] pos) (tE G Wx fun ρ => M.bind (ra ρ) fun x => M.bind (rb ρ) fun y => M.op (f x y)) :=
  PE.imp (pe_cmpR ho ha hb hm) fun _ _ _ h => bin_imp h
theorem c2W_some {o : C2} {x y w : W} {s s' : Sto} (h : c2W o x y s = some (w, s')) : ∃ k, c2B o s x y = some k ∧ w = .bl k ∧ s' = s := by
  unfold c2W Op1.of at h
  cases e : c2B o s x y with
  | none => rw [e] at h; cases h
  | some k => rw [e] at h; cases h; exact ⟨k, rfl, rfl, rfl⟩
theorem pt_cmpW {op : CmpOp} {o : C2} (ho : OpR X (compareOp op) (r2 G (c2W o))) (ha : PE X a (tE G Wx ra)) (hb : PE X b (tE G Wx rb)) (hm : behindInMarks op b = false) :
    PT X (.Compare a [op] [b] pos) (tT G Wx fun ρ => M.bind (M.bind (ra ρ) fun x => M.bind (rb ρ) fun y => M.op (c2W o x y)) M.tru) := by
  refine PT.imp (pt_cmpR ho ha hb hm) fun σ H Q h => ?_
  obtain ⟨R, s, ι, ρ, S, D, P⟩ := h
  refine ⟨R, s, ι, ρ, S, D, P.bind.bind.mono fun x s1 ι1 H1 T1 P1 v1 d1 => ?_⟩
  refine ⟨R, s1, ι1, ρ, T1.sim, D.step T1, P1.bind.mono fun y s2 ι2 H2 T2 P2 v2 d2 => ?_⟩
  obtain ⟨w, s3, e, K⟩ := P2.op
  obtain ⟨k, _, rfl, rfl⟩ := c2W_some e
  refine ⟨R, s3, ι2, x, y, .bl k, s3, T2.sim, T2.den d1, d2, e, fun ι' H' v T d => ?_⟩
  have d' : v = .bl k := by simpa only [Den] using d
  subst d'
  refine ⟨k, rfl, ?_⟩
  exact (Post.op (m := truM (.bl k)) (K ι' H' T)).elim fun b h1 => h1.elim fun s4 h2 => by
    have e4 : truM (.bl k) s3 = some (k, s3) := rfl
    rw [e4] at h2
    obtain ⟨h3, h4⟩ := h2
    cases h3
    exact h4 ι' H' (Step.refl T.sim)
/-- a literal -/
theorem pe_cstW {pos : Pos} {j : Nat} {k : Kc} {c : PySem.Const} (h : chkK k c = true) : PE X (.Constant c j pos) (tE G Wx fun _ => M.ret (kcW k)) := by
  have go : ∀ v : V, (∀ F ι, Den G F ι (kcW k) v) → ∀ σ H Q, tE G Wx (fun _ => M.ret (kcW k)) σ H Q → tC v σ H Q := fun v hv σ H Q ⟨R, s, ι, ρ, S, D, P⟩ => P.ret S v (hv _ _)
  cases k <;> cases c <;> first | (simp [chkK] at h; done) | skip
  · exact PE.imp pe_non (go _ fun F ι => by simp only [kcW, Den])
  · rename_i b d
    have e : b = d := by simpa [chkK] using h
    subst e
    exact PE.imp pe_bl (go _ fun F ι => by simp only [kcW, Den])
  · rename_i b d
    have e : b = d := by simpa [chkK] using h
    subst e
    exact PE.imp pe_int (go _ fun F ι => by simp only [kcW, Den])
  · rename_i t z
    have e : t = z.cps.toList := by simpa [chkK] using h
    subst e
    exact PE.imp pe_str (go _ fun F ι => by simp only [kcW, Den])
/-- a name -/
theorem pe_varW {i : Nat} {x : Str} (hN : X.N[i]? = some x) (hv : Vis X.env.scope x) (hd : (x == ("__debug__" : Str)) = false) (hcd : (x == ("__classdict__" : Str)) = false) :
    PE X (.Name x pos) (tE G Wx fun ρ => M.of (ρ[i]?.join)) := by
  refine PE.imp (pe_var hN hv hd hcd) fun σ H Q h => ?_
  obtain ⟨R, s, ι, ρ, S, D, P⟩ := h
  obtain ⟨w, e, K⟩ := P.of S
  have e' : ρ[i]? = some (some w) := by
    cases q : ρ[i]? with
    | none => rw [q] at e; cases e
    | some z => rw [q] at e; simp at e; rw [e]
  obtain ⟨v, e2, d⟩ := D.2 i w e'
  exact ⟨v, e2, K v d⟩
end
/-! ### truth -/
section
variable {G : Gx} {R : List Addr} {s : Sto} {ι : List Addr} {H : Hp}
theorem DenL.isEmpty {F : Fz} {ws : List W} {vs : List V} (d : DenL G F ι ws vs) : ws.isEmpty = vs.isEmpty := by
  cases ws with
  | nil => simp only [DenL] at d; subst d; rfl
  | cons w ws => simp only [DenL] at d; obtain ⟨v, r, rfl, _, _⟩ := d; rfl
theorem DenL.length {F : Fz} : ∀ {ws : List W} {vs : List V}, DenL G F ι ws vs → ws.length = vs.length
  | [], vs, d => by simp only [DenL] at d; subst d; rfl
  | w :: ws, vs, d => by
    simp only [DenL] at d
    obtain ⟨v, r, rfl, _, h⟩ := d
    simp [DenL.length h]
/-- a list by the heap -/
theorem lst_den (S : Sim G R s ι H) {w : W} {v : V} (d : Den G (FzH G R s ι H) ι w v) {xs : List W} (h : lstOf s w = some xs) :
    ∃ a vs, v = .ref a ∧ Rd H a (.lst vs) ∧ DenL G (FzH G R s ι H) ι xs vs := by
  cases w with
  | lst ys =>
    cases h
    simp only [Den] at d
    obtain ⟨a, vs, rfl, f, d⟩ := d
    exact ⟨a, vs, rfl, f.2, d⟩
  | ref n =>
    simp only [lstOf] at h
    simp only [Den] at d
    obtain ⟨a, e, rfl⟩ := d
    cases q : s.get n with
    | none => rw [q] at h; cases h
    | some o =>
      rw [q] at h
      cases o with
      | lst ys =>
        cases h
        obtain ⟨b, h1, _, vs, h3, h4⟩ := S.obj n _ q
        rw [e] at h1
        cases h1
        exact ⟨a, vs, rfl, .inl h3, h4⟩
      | _ => cases h
  | _ => cases h
theorem tru_den (S : Sim G R s ι H) {w : W} {v : V} (d : Den G (FzH G R s ι H) ι w v) {k : Bool} (h : truW s w = some k) : TruV G.K v H k := by
  have viaL : ∀ (h : (match lstOf s w with
    | some xs => some (!xs.isEmpty)
    | none => none) = some k), TruV G.K v H k := fun h => by
    cases q : lstOf s w with
    | none => rw [q] at h; cases h
    | some xs =>
      rw [q] at h
      cases h
      obtain ⟨a, vs, rfl, h1, h2⟩ := lst_den S d q
      exact .inl ⟨vs, .inl h1, by rw [h2.isEmpty]⟩
  cases w with
  | non => simp only [Den] at d; subst d; simp only [truW] at h; cases h; exact rfl
  | bl b => simp only [Den] at d; subst d; simp only [truW] at h; cases h; exact rfl
  | int i => simp only [Den] at d; subst d; simp only [truW] at h; cases h; exact rfl
  | str t =>
    simp only [Den] at d
    subst d
    simp only [truW] at h
    split at h
    · rename_i hl
      cases h
      refine ⟨by simpa [Str.length] using hl, ?_⟩
      cases t <;> simp [Str.length]; omega
    · cases h
  | tup xs =>
    simp only [truW] at h
    cases h
    simp only [Den] at d
    obtain ⟨a, vs, rfl, f, d⟩ := d
    exact .inr (.inl ⟨vs, SqT.of f.2, by rw [d.isEmpty]⟩)
  | lst xs => exact viaL h
  | dct xs => exact viaL h
  | obj c fs => exact viaL h
  | ref n => exact viaL h
  | ctp xs => exact viaL h
theorem truM_some {w : W} {b : Bool} {s' : Sto} (h : truM w s = some (b, s')) : truW s w = some b ∧ s' = s := by
  unfold truM Op1.of at h
  split at h
  · rename_i q
    cases h
    exact ⟨q, rfl⟩
  · cases h
end
section
variable {G : Gx} {Wx : WX} {X : Cx} {a b c : PySem.Expr} {ra rb rc : Env → M W} {pos : Pos} {rest : List PySem.Expr}
/-- an expression's truth -/
theorem pt_truW (hK : X.K = G.K) (ha : PE X a (tE G Wx ra)) (he : ∀ whole, isTrue a X.env whole = (do let v ← whole; standAt a.pos; holding [v] (truthy v))) :
    PT X a (tT G Wx fun ρ => M.bind (ra ρ) M.tru) := by
  refine PT.imp (pt_truth ha he) fun σ H Q h => ?_
  obtain ⟨R, s, ι, ρ, S, D, P⟩ := h
  refine ⟨R, s, ι, ρ, S, D, P.bind.mono fun x s1 ι1 H1 T1 P1 v1 d1 => ?_⟩
  obtain ⟨k, s2, e, K⟩ := P1.op
  obtain ⟨e1, rfl⟩ := truM_some e
  exact ⟨k, by rw [hK]; exact tru_den T1.sim d1 e1, K ι1 H1 (Step.refl T1.sim)⟩
end
end Mn

end

section
set_option Elab.async false
set_option linter.all false
set_option maxRecDepth 100000
/-! Mini: operators. -/
namespace Mn
open PySem PySem.Spec PyProof.Rows L2
theorem OpR.imp {X : Cx} {f : Value → Value → Sem Value} {r r' : R2} (h : OpR X f r) (hi : ∀ x y H Q, r' x y H Q → r x y H Q) : OpR X f r' := fun pins s σ H x y v u Q I rx ry q => h pins s σ H x y v u Q I rx ry (hi _ _ _ _ q)
theorem line_eq : line = sizeLine := rfl
/-! ### data -/
mutual
def pdW : W → PyData
  | .non => .none
  | .bl b => .bool b
  | .int i => .int i
  | .str s => .str ⟨s.toArray⟩
  | .tup xs => .tuple (pdL xs)
  | .lst xs => .list (pdL xs)
  | _ => .none
def pdL : List W → List PyData
  | [] => []
  | x :: xs => pdW x :: pdL xs
end
mutual
theorem dp_of {G : Gx} {R : List Addr} {s : Sto} {ι : List Addr} {H : Hp} : ∀ (d : Nat) (w : W) (v : V), dataW d w = true → Den G (FzH G R s ι H) ι w v → Dp G.K H v (pdW w)
  | _, .non, v, _, h => by simp only [Den] at h; subst h; exact .non
  | _, .bl b, v, _, h => by simp only [Den] at h; subst h; exact .bl b
  | _, .int i, v, _, h => by simp only [Den] at h; subst h; exact .int i
  | _, .str t, v, _, h => by simp only [Den] at h; subst h; exact .str _
  | 0, .tup xs, v, hd, h => by simp [dataW] at hd
  | d + 1, .tup xs, v, hd, h => by
    simp only [Den] at h
    obtain ⟨a, vs, rfl, f, h⟩ := h
    exact .tup (SqT.of f.2) (dp_ofL d xs vs (by simpa only [dataW] using hd) h)
  | 0, .lst xs, v, hd, h => by simp [dataW] at hd
  | d + 1, .lst xs, v, hd, h => by
    simp only [Den] at h
    obtain ⟨a, vs, rfl, f, h⟩ := h
    exact .lst (.inl f.2) (dp_ofL d xs vs (by simpa only [dataW] using hd) h)
  | d, .dct kvs, v, hd, h => by cases d <;> simp [dataW] at hd
  | d, .obj c fs, v, hd, h => by cases d <;> simp [dataW] at hd
  | d, .ref n, v, hd, h => by cases d <;> simp [dataW] at hd
theorem dp_ofL {G : Gx} {R : List Addr} {s : Sto} {ι : List Addr} {H : Hp} : ∀ (d : Nat) (ws : List W) (vs : List V), dataL d ws = true → DenL G (FzH G R s ι H) ι ws vs → DpAll G.K H vs (pdL ws)
  | _, [], vs, _, h => by simp only [DenL] at h; subst h; exact .nil
  | d, x :: xs, vs, hd, h => by
    simp only [DenL] at h
    obtain ⟨v, r, rfl, h1, h2⟩ := h
    have h3 : dataW d x = true ∧ dataL d xs = true := by simpa [dataL] using hd
    exact .cons (dp_of d x v h3.1 h1) (dp_ofL d xs r h3.2 h2)
end
mutual
theorem eqv_of : ∀ (d e : Nat) (a b : W), dataW d a = true → dataW e b = true → PyData.eqv (pdW a) (pdW b) = eqW a b
  | d, e, a, b, ha, hb => by
    cases a <;> cases b <;> first
      | (cases d <;> simp [dataW] at ha; done)
      | (cases e <;> simp [dataW] at hb; done)
      | (simp only [pdW, PyData.eqv, eqW]; done)
      | skip
    all_goals simp only [pdW, PyData.eqv, eqW]
    · rename_i p q; cases p <;> cases q <;> rfl
    · rename_i p q; cases p <;> rfl
    · rename_i p q; cases q <;> rfl
    · rename_i s t
      by_cases h : s = t
      · subst h; simp
      · rw [decide_eq_false h]
        refine beq_eq_false_iff_ne.mpr fun z => h ?_
        have := congrArg (fun q : Str => q.cps.toList) z
        simpa using this
    · rename_i xs ys
      cases d with
      | zero => simp [dataW] at ha
      | succ d =>
        cases e with
        | zero => simp [dataW] at hb
        | succ e => exact eqv_ofL d e xs ys (by simpa only [dataW] using ha) (by simpa only [dataW] using hb)
    · rename_i xs ys
      cases d with
      | zero => simp [dataW] at ha
      | succ d =>
        cases e with
        | zero => simp [dataW] at hb
        | succ e => exact eqv_ofL d e xs ys (by simpa only [dataW] using ha) (by simpa only [dataW] using hb)
theorem eqv_ofL : ∀ (d e : Nat) (a b : List W), dataL d a = true → dataL e b = true → PyData.eqvAll (pdL a) (pdL b) = eqL a b
  | d, e, [], [], _, _ => by simp only [pdL, PyData.eqvAll, eqL]
  | d, e, [], y :: ys, _, _ => by simp only [pdL, PyData.eqvAll, eqL]
  | d, e, x :: xs, [], _, _ => by simp only [pdL, PyData.eqvAll, eqL]
  | d, e, x :: xs, y :: ys, ha, hb => by
    have h1 : dataW d x = true ∧ dataL d xs = true := by simpa [dataL] using ha
    have h2 : dataW e y = true ∧ dataL e ys = true := by simpa [dataL] using hb
    simp only [pdL, PyData.eqvAll, eqL]
    rw [eqv_of d e x y h1.1 h2.1, eqv_ofL d e xs ys h1.2 h2.2]
end
mutual
theorem lay_of : ∀ (d : Nat) (w : W), dataW d w = true → (pdW w).canLay0 = true ∧ (pdW w).depth ≤ d
  | d, w, h => by
    cases w with
    | str s =>
      refine ⟨?_, by simp [pdW, PyData.depth]⟩
      simp only [pdW, PyData.canLay0, PyData.strOk]
      simpa [dataW] using h
    | tup xs =>
      cases d with
      | zero => simp [dataW] at h
      | succ d =>
        obtain ⟨h1, h2⟩ := lay_ofL d xs (by simpa only [dataW] using h)
        exact ⟨by simpa only [pdW, PyData.canLay0] using h1, by simp only [pdW, PyData.depth]; omega⟩
    | lst xs =>
      cases d with
      | zero => simp [dataW] at h
      | succ d =>
        obtain ⟨h1, h2⟩ := lay_ofL d xs (by simpa only [dataW] using h)
        exact ⟨by simpa only [pdW, PyData.canLay0] using h1, by simp only [pdW, PyData.depth]; omega⟩
    | _ => exact ⟨by simp [pdW, PyData.canLay0], by simp [pdW, PyData.depth]⟩
theorem lay_ofL : ∀ (d : Nat) (ws : List W), dataL d ws = true → PyData.canLayAll0 (pdL ws) = true ∧ PyData.depthAll (pdL ws) ≤ d
  | d, [], _ => ⟨by simp [pdL, PyData.canLayAll0], by simp [pdL, PyData.depthAll]⟩
  | d, x :: xs, h => by
    have h1 : dataW d x = true ∧ dataL d xs = true := by simpa [dataL] using h
    obtain ⟨a1, a2⟩ := lay_of d x h1.1
    obtain ⟨b1, b2⟩ := lay_ofL d xs h1.2
    refine ⟨by simp [pdL, PyData.canLayAll0, a1, b1], ?_⟩
    simp only [pdL, PyData.depthAll]
    omega
end
theorem shaped_of {d : Nat} {w : W} (hd : d ≤ 60) (h : dataW d w = true) : SeqAt.shaped (pdW w) = true := by
  obtain ⟨h1, h2⟩ := lay_of d w h
  unfold SeqAt.shaped
  rw [h1, Bool.true_and]
  exact decide_eq_true (by omega)
end Mn

end

section
set_option Elab.async false
set_option linter.all false
set_option maxRecDepth 100000
set_option maxHeartbeats 2000000
/-! Mini: + - * // % ** and comparisons. -/
namespace Mn
open PySem PySem.Spec PyProof.Rows L2
def b2o : B2 → Operator
  | .add => .Add
  | .sub => .Sub
  | .mul => .Mult
  | .fdiv => .FloorDiv
  | .md => .Mod
  | .pow => .Pow
def c2o : C2 → CmpOp
  | .eq => .Eq
  | .ne => .NotEq
  | .lt => .Lt
  | .le => .LtE
  | .gt => .Gt
  | .ge => .GtE
  | .isin => .In
  | .notin => .NotIn
section
variable {X : Cx} {G : Gx} {R : List Addr} {s : Sto} {ι : List Addr} {H : Hp}
theorem den_int {F : Fz} {i : Int} : Den G F ι (.int i) (.int i) := by simp only [Den]
theorem den_bl {F : Fz} {i : Bool} : Den G F ι (.bl i) (.bl i) := by simp only [Den]
theorem den_str {F : Fz} {t : List Nat} : Den G F ι (.str t) (.str ⟨t.toArray⟩) := by simp only [Den]
theorem den_non {F : Fz} : Den G F ι .non .non := by simp only [Den]
theorem of_int {F : Fz} {i : Int} {v : V} (h : Den G F ι (.int i) v) : v = .int i := by simpa only [Den] using h
theorem of_bl {F : Fz} {i : Bool} {v : V} (h : Den G F ι (.bl i) v) : v = .bl i := by simpa only [Den] using h
theorem of_str {F : Fz} {t : List Nat} {v : V} (h : Den G F ι (.str t) v) : v = .str ⟨t.toArray⟩ := by simpa only [Den] using h
theorem of_non {F : Fz} {v : V} (h : Den G F ι .non v) : v = .non := by simpa only [Den] using h
theorem DenL.append {F : Fz} : ∀ {a b : List W} {x y : List V}, DenL G F ι a x → DenL G F ι b y → DenL G F ι (a ++ b) (x ++ y)
  | [], b, x, y, h, k => by simp only [DenL] at h; subst h; exact k
  | w :: a, b, x, y, h, k => by
    simp only [DenL] at h
    obtain ⟨v, r, rfl, h1, h2⟩ := h
    simp only [List.cons_append, DenL]
    exact ⟨v, r ++ y, rfl, h1, DenL.append h2 k⟩
theorem DenL.nil {F : Fz} : DenL G F ι [] [] := by simp only [DenL]
theorem DenL.cons {F : Fz} {w : W} {ws : List W} {v : V} {vs : List V} (h : Den G F ι w v) (k : DenL G F ι ws vs) : DenL G F ι (w :: ws) (v :: vs) := by
  simp only [DenL]
  exact ⟨v, vs, rfl, h, k⟩
theorem DenL.rep {F : Fz} {a : List W} {x : List V} (h : DenL G F ι a x) : ∀ n : Nat, DenL G F ι (List.replicate n a).flatten (List.replicate n x).flatten
  | 0 => DenL.nil
  | n + 1 => by
    simp only [List.replicate_succ, List.flatten_cons]
    exact h.append (DenL.rep h n)
/-- a new list, a new tuple -/
theorem new_lst (S : Sim G R s ι H) {ws : List W} {vs : List V} {p : Addr} (hp : H p = none) (d : DenL G (FzH G R s ι H) ι ws vs) :
    Step G R s ι H s ι (upd H p (.lst vs)) ∧ Den G (FzH G R s ι (upd H p (.lst vs))) ι (.lst ws) (.ref p) := by
  have T : Step G R s ι H s ι (upd H p (.lst vs)) := Step.laid S hp
  refine ⟨T, ?_⟩
  simp only [Den]
  exact ⟨p, vs, rfl, FzH.new S hp trivial, T.denL d⟩
theorem new_tup (S : Sim G R s ι H) {ws : List W} {vs : List V} {p : Addr} (hp : H p = none) (d : DenL G (FzH G R s ι H) ι ws vs) :
    Step G R s ι H s ι (upd H p (.tup vs)) ∧ Den G (FzH G R s ι (upd H p (.tup vs))) ι (.tup ws) (.ref p) := by
  have T : Step G R s ι H s ι (upd H p (.tup vs)) := Step.laid S hp
  refine ⟨T, ?_⟩
  simp only [Den]
  exact ⟨p, vs, rfl, FzH.new S hp trivial, T.denL d⟩
theorem lstR {pins : List (Addr × Obj)} {σ : L2.St} {st : Shared} {l : Addr} {xs : List V} (I : Inv X pins σ H st) (h : Rd H l (.lst xs)) :
    xs.length ≤ sizeLine ∧ ∃ (its : List Value) (n : Nat), Vals xs its ∧ xs.length = its.length ∧ st.heap.get? l = some { cls := .type "list", data := .seq its.toArray n } := by
  obtain ⟨z, its, n, r, e⟩ := h.ok I.hok
  exact ⟨z, its, n, r, r.length, e⟩
/-- list + list, read -/
theorem op_catR : OpR X (binaryOp .Add) (fun x y H Q => ∃ l b xs zs, x = .ref l ∧ y = .ref b ∧ Rd H l (.lst xs) ∧ Rd H b (.lst zs) ∧ xs.length + zs.length ≤ sizeLine ∧ ∀ p, H p = none → Q (.ref p) (upd H p (.lst (xs ++ zs)))) := by
  intro pins s σ H x y v u Q I rx ry h
  obtain ⟨l, b, xs, zs, rfl, rfl, hH, hB, hz, q⟩ := h
  cases rx
  cases ry
  obtain ⟨z, its, n, r, hl, e⟩ := lstR I hH
  obtain ⟨z2, its2, n2, r2, hl2, e2⟩ := lstR I hB
  refine PySem.P.add_list e e2 ?_ (by rw [List.size_toArray, List.size_toArray]; omega)
  have ea : its.toArray ++ its2.toArray = (its ++ its2).toArray := by simp
  rw [ea]
  exact ⟨.ref _, _, I.lnew (t' := s.toks) (r.append r2) (by rw [List.length_append]; omega), rfl, q _ I.fresh⟩
theorem fitsI {k : Int} (h1 : -(2 ^ 63) ≤ k) (h2 : k < 2 ^ 63) : ¬ (!Builtin.List.listFitsIndex k) = true := by
  rw [fitsIndex_both h1 h2]
  exact Bool.false_ne_true
/-- list * int, read -/
theorem op_repR : OpR X (binaryOp .Mult) (fun x y H Q => ∃ l k xs, x = .ref l ∧ y = .int k ∧ Rd H l (.lst xs) ∧ -(2 ^ 63) ≤ k ∧ k < 2 ^ 63 ∧ xs.length * k.toNat ≤ sizeLine ∧ ∀ p, H p = none → Q (.ref p) (upd H p (.lst (List.replicate k.toNat xs).flatten))) := by
  intro pins s σ H x y v u Q I rx ry h
  obtain ⟨l, k, xs, rfl, rfl, hH, h1, h2, hz, q⟩ := h
  cases rx
  obtain ⟨t, rfl⟩ := ry
  obtain ⟨z, its, n, r, hl, e⟩ := lstR I hH
  have hlen : its.toArray.size * k.toNat ≤ sizeLine := by rw [List.size_toArray, ← hl]; exact hz
  have hcap : ¬ its.toArray.size * k.toNat > (2 ^ 63 - 1) / 8 := by
    have : (sizeLine : Nat) ≤ (2 ^ 63 - 1) / 8 := by decide
    omega
  have hfit : ¬ (!Builtin.List.listFitsIndex k) = true := fitsI h1 h2
  have hlong : ¬ Builtin.List.listTooLong (its.toArray.size * k.toNat) = true := by
    rw [notLongL hlen]
    exact Bool.false_ne_true
  have hnew : List.foldl (fun x1 x2 => x1 ++ x2) #[] (List.replicate (if its.toArray.isEmpty = true then 0 else k.toNat) its.toArray) = (List.replicate k.toNat its).flatten.toArray := by
    have f0 : ∀ m : Nat, List.foldl (fun x1 x2 => x1 ++ x2) #[] (List.replicate m its.toArray) = (List.replicate m its).flatten.toArray := fun m => by
      have := foldl_rep its m []
      rw [List.nil_append] at this
      exact this
    rw [f0]
    cases its with
    | nil => simp
    | cons a r' => rw [if_neg (by simp)]
  refine wpAny_binaryOp_repeat_ref (T := "list") (U := "int") (by decide) ⟨_, e, rfl⟩ (fun s' => typeIs_int s' k t) noFill_list_mul F.fills_int_mul F.slot_int_rmul repeat_list F.slot_int_index.lookup
    (call_meets F.slot_int_rmul (typeIs_int s k t) F.entry_int_rmul (F.args_int_rmul_2 _ _) (int___rmul___int_list k t l its.toArray n)
      ⟨e, rfl, ⟨_, e, rfl⟩, call_meets F.slot_list_mul ⟨_, e, rfl⟩ F.entry_list_mul (F.args_list_mul_2 _ _) (AutoListH.list___mul___list_int_3 l its.toArray n k t hfit hcap hlong) ⟨e, ?_⟩⟩)
  rw [hnew]
  exact ⟨.ref _, _, I.lnew (t' := s.toks) (r.rep k.toNat) (by rw [PyProof.Rows.lm_len_rep_flat, Nat.mul_comm]; exact hz), rfl, q _ I.fresh⟩
theorem str_add (a b : List Nat) : (⟨a.toArray⟩ : PySem.Str) ++ ⟨b.toArray⟩ = ⟨(a ++ b).toArray⟩ := by
  have e : (⟨a.toArray⟩ : PySem.Str) ++ ⟨b.toArray⟩ = ⟨a.toArray ++ b.toArray⟩ := rfl
  rw [e]
  simp
theorem smallI_ok {i : Int} (h : smallI i = true) : -(2 ^ 64) < i ∧ i < 2 ^ 64 := by
  unfold smallI at h
  simpa using h
theorem div_ok {i j : Int} (h : 0 < j ∧ j < 2 ^ 64) : CDivW i j := by
  refine ⟨h.1, ?_⟩
  have h1 : j.natAbs < 2 ^ 64 := by omega
  have h2 : j.natAbs.log2 < 64 := by
    rcases Nat.eq_zero_or_pos j.natAbs with z | z
    · rw [z]; decide
    · exact (Nat.log2_lt (by omega)).mpr h1
  omega
theorem op_b2 (hK : X.K = G.K) (o : B2) : OpR X (binaryOp (b2o o)) (r2 G (b2W o)) := by
  intro pins st σ H x y v u Q I rx ry h
  obtain ⟨R, s, ι, a, b, w, s', S, da, db, e, K⟩ := h
  unfold b2W at e
  split at e
  · -- int + int
    cases e
    rw [of_int da] at rx
    rw [of_int db] at ry
    exact op_add pins st σ H _ _ v u Q I rx ry ⟨_, _, rfl, rfl, K ι H _ (Step.refl S) den_int⟩
  · split at e
    · rename_i hl
      cases e
      rw [of_str da] at rx
      rw [of_str db] at ry
      exact op_add_str pins st σ H _ _ v u Q I rx ry ⟨_, _, rfl, rfl, by simpa [Str.length] using hl, by rw [str_add]; exact K ι H _ (Step.refl S) den_str⟩
    · cases e
  · split at e
    · rename_i xs ys hl
      cases e
      simp only [Den] at da db
      obtain ⟨p, vs, rfl, f, da'⟩ := da
      obtain ⟨q, us, rfl, g, db'⟩ := db
      have h1 : SqT X.K H p vs := SqT.of f.2
      have h2 : SqT X.K H q us := SqT.of g.2
      refine op_catA pins st σ H _ _ v u Q I rx ry ⟨p, q, vs, us, rfl, rfl, h1, h2, by rw [← da'.length, ← db'.length]; exact hl, fun e => ?_, fun e1 e2 => ?_, fun e1 e2 a ha => ?_⟩
      · subst e
        have : xs = [] := by
          have := da'.length
          simpa using this
        subst this
        refine K ι H _ (Step.refl S) ?_
        simp only [List.nil_append, Den]
        exact ⟨q, us, rfl, g, db'⟩
      · subst e2
        have : ys = [] := by
          have := db'.length
          simpa using this
        subst this
        refine K ι H _ (Step.refl S) ?_
        simp only [List.append_nil, Den]
        exact ⟨p, vs, rfl, f, da'⟩
      · obtain ⟨T, d⟩ := new_tup S ha (da'.append db')
        exact K ι _ _ T d
    · cases e
  · -- lists
    split at e
    · rename_i xs ys ea eb
      split at e
      · rename_i hl
        cases e
        obtain ⟨p, vs, rfl, f, da'⟩ := lst_den S da ea
        obtain ⟨q, us, rfl, g, db'⟩ := lst_den S db eb
        refine op_catR pins st σ H _ _ v u Q I rx ry ⟨p, q, vs, us, rfl, rfl, f, g, by rw [← da'.length, ← db'.length]; exact hl, fun a ha => ?_⟩
        obtain ⟨T, d⟩ := new_lst S ha (da'.append db')
        exact K ι _ _ T d
      · cases e
    · cases e
  · cases e
    rw [of_int da] at rx
    rw [of_int db] at ry
    exact op_sub pins st σ H _ _ v u Q I rx ry ⟨_, _, rfl, rfl, K ι H _ (Step.refl S) den_int⟩
  · split at e
    · rename_i hl
      cases e
      rw [of_int da] at rx
      rw [of_int db] at ry
      refine op_mul pins st σ H _ _ v u Q I rx ry ⟨_, _, rfl, rfl, ?_, K ι H _ (Step.refl S) den_int⟩
      rcases Bool.or_eq_true_iff.mp hl with h | h
      · exact .inl (smallI_ok h)
      · exact .inr (smallI_ok h)
    · cases e
  · split at e
    · rename_i xs ea
      split at e
      · rename_i hl
        cases e
        simp only [Bool.and_eq_true, decide_eq_true_eq] at hl
        obtain ⟨p, vs, rfl, f, da'⟩ := lst_den S da ea
        rw [of_int db] at ry
        refine op_repR pins st σ H _ _ v u Q I rx ry ⟨p, _, vs, rfl, rfl, f, by omega, by omega, by rw [← da'.length]; exact hl.2.2, fun a ha => ?_⟩
        obtain ⟨T, d⟩ := new_lst S ha (da'.rep _)
        exact K ι _ _ T d
      · cases e
    · cases e
  · split at e
    · rename_i hl
      cases e
      rw [of_int da] at rx
      rw [of_int db] at ry
      exact op_fdivW pins st σ H _ _ v u Q I rx ry ⟨_, _, rfl, rfl, div_ok hl, K ι H _ (Step.refl S) den_int⟩
    · cases e
  · split at e
    · rename_i hl
      cases e
      rw [of_int da] at rx
      rw [of_int db] at ry
      exact op_mod pins st σ H _ _ v u Q I rx ry ⟨_, _, rfl, rfl, hl, K ι H _ (Step.refl S) den_int⟩
    · cases e
  · split at e
    · rename_i hl
      cases e
      rw [of_int da] at rx
      rw [of_int db] at ry
      exact op_pow pins st σ H _ _ v u Q I rx ry ⟨_, _, rfl, rfl, ⟨hl.1, by omega, hl.2.2⟩, K ι H _ (Step.refl S) den_int⟩
    · cases e
  · cases e
/-! ### == -/
theorem datOf_den (S : Sim G R s ι H) {w x : W} {v : V} (d : Den G (FzH G R s ι H) ι w v) (h : datOf s w = some x) : dataW 49 x = true ∧ Dp G.K H v (pdW x) := by
  have plain : ∀ w : W, (if dataW 49 w then some w else none) = some x → Den G (FzH G R s ι H) ι w v → dataW 49 x = true ∧ Dp G.K H v (pdW x) := fun w h d => by
    split at h
    · rename_i hd
      cases h
      exact ⟨hd, dp_of 49 _ _ hd d⟩
    · cases h
  cases w with
  | ref n =>
    simp only [datOf] at h
    cases q : s.get n with
    | none => rw [q] at h; cases h
    | some o =>
      rw [q] at h
      cases o with
      | lst xs =>
        simp only at h
        split at h
        · rename_i hd
          cases h
          obtain ⟨a, vs, rfl, f, d'⟩ := lst_den S d (xs := xs) (by simp only [lstOf, q])
          refine ⟨by simpa only [dataW] using hd, ?_⟩
          simp only [pdW]
          exact .lst (.inl f) (dp_ofL 48 xs vs hd d')
        · cases h
      | _ => cases h
  | _ =>
    refine plain _ ?_ d
    exact h
theorem unit_ok {A : Around} {k : Nat} (hr : L2.Room k A) : A.units + 64 < cLine := by
  have := hr.un
  omega
theorem dct_nil (S : Sim G R s ι H) {w : W} {v : V} (d : Den G (FzH G R s ι H) ι w v) (h : dctOf s w = some []) : ∃ a, v = .ref a ∧ (Rd H a (.dK []) ∨ Rd H a (.dT [])) := by
  cases w with
  | dct kvs =>
    cases h
    simp only [Den, DenD] at d
    obtain ⟨a, o, rfl, f, e | e⟩ := d <;> subst e
    · exact ⟨a, rfl, .inl f.2.1⟩
    · exact ⟨a, rfl, .inr f.2.1⟩
  | ref n =>
    simp only [dctOf] at h
    simp only [Den] at d
    obtain ⟨a, e, rfl⟩ := d
    cases q : s.get n with
    | none => rw [q] at h; cases h
    | some o =>
      rw [q] at h
      cases o with
      | dct lk kvs =>
        simp only at h
        split at h
        · cases h
        rename_i hl
        cases h
        obtain ⟨b, h1, _, o, h3, h4⟩ := S.obj n _ q
        rw [e] at h1
        cases h1
        simp only [DenD] at h4
        have h5 : Rd H a o := by
          split at h3
          · exact .inr h3
          · exact .inl h3
        rcases h4 with h4 | h4 <;> subst h4
        · exact ⟨a, rfl, .inl h5⟩
        · exact ⟨a, rfl, .inr h5⟩
      | _ => cases h
  | _ => cases h
end
end Mn

end

section
set_option Elab.async false
set_option linter.all false
set_option maxRecDepth 100000
set_option maxHeartbeats 2000000
/-! Mini: dicts. -/
namespace Mn
open PySem PySem.Spec PyProof.Rows L2
section
variable {X : Cx} {pins : List (Addr × Obj)} {σ : L2.St} {H : Hp} {st : Shared} {a : Addr}
theorem raw_nil (h : ObjOk X.prog X.w H st.heap a (.dT []) ∨ ObjOk X.prog X.w H st.heap a (.dK [])) :
    (a == sysModules) = false ∧ ∃ o ep, st.heap.get? a = some o ∧ o.ExactDict ∧ o.data = .dict #[] ep := by
  rcases h with h | h
  · obtain ⟨_, y, xs, r, o, es, ep, e, x, d, l, _⟩ := h
    cases r
    have : es = #[] := by simpa using l
    subst this
    exact ⟨y, o, ep, e, x, d⟩
  · obtain ⟨_, y, vs, r, o, es, ep, e, x, d, l, p, _⟩ := h
    cases r
    have : es.toList = [] := by
      generalize es.toList = l at p
      cases p
      rfl
    have : es = #[] := by simpa using this
    subst this
    exact ⟨y, o, ep, e, x, d⟩
theorem dK_of_raw {h : Heap} {H : Hp} (y : (a == sysModules) = false) {o : Obj} {ep : Nat} (e : h.get? a = some o) (x : o.ExactDict) (d : o.data = .dict #[] ep) : ObjOk X.prog X.w H h a (.dK []) :=
  ⟨Nat.zero_le _, y, [], .nil, o, #[], ep, e, x, d, fun i z => by simp at z, .nil, List.nodup_nil⟩
theorem dT_of_raw {h : Heap} {H : Hp} (y : (a == sysModules) = false) {o : Obj} {ep : Nat} (e : h.get? a = some o) (x : o.ExactDict) (d : o.data = .dict #[] ep) : ObjOk X.prog X.w H h a (.dT []) :=
  ⟨Nat.zero_le _, y, [], .nil, o, #[], ep, e, x, d, rfl, List.nodup_nil⟩
/-- an empty dict is of either kind -/
theorem inv_flip {u u' : HO} (I : Inv X pins σ H st) (hu : (u = .dK [] ∧ u' = .dT []) ∨ (u = .dT [] ∧ u' = .dK [])) (e : H a = some u) : Inv X pins σ (upd H a u') st := by
  have raw : (a == sysModules) = false ∧ ∃ o ep, st.heap.get? a = some o ∧ o.ExactDict ∧ o.data = .dict #[] ep := by
    refine raw_nil (X := X) (H := H) ?_
    rcases hu with ⟨rfl, _⟩ | ⟨rfl, _⟩
    · exact .inr (I.hok a _ e)
    · exact .inl (I.hok a _ e)
  obtain ⟨y, o, ep, g, x, d⟩ := raw
  have ne : ∀ b w, H b = some w → (∀ kvs, w ≠ .dK kvs) → (∀ kvs, w ≠ .dT kvs) → b ≠ a := fun b w q h1 h2 z => by
    rw [z, e] at q
    rcases hu with ⟨hu, _⟩ | ⟨hu, _⟩
    · exact h1 _ ((Option.some.inj q).symm.trans hu)
    · exact h2 _ ((Option.some.inj q).symm.trans hu)
  have h0 : Inv X pins σ (upd H a u') { st with heap := st.heap, toks := st.toks } := by
    refine I.un (h' := st.heap) (t' := st.toks) ⟨fun _ _ q _ _ _ => q, fun b o q _ _ _ => ⟨o.slots, q⟩, fun b o q n _ => ?_, fun b o q _ => ⟨o, q⟩, fun b xs q => ?_, fun b o w q => ?_, fun b ps q => ⟨#[], ?_⟩⟩ fun b w q => ?_
    · rw [upd_ne (fun z => by rw [z, e] at n; cases n)]; exact n
    · rw [upd_ne (ne b _ q (fun _ z => by cases z) (fun _ z => by cases z))]; exact q
    · rw [upd_ne (ne b _ q (fun _ z => by cases z) (fun _ z => by cases z))]; exact q
    · rw [upd_ne (ne b _ q (fun _ z => by cases z) (fun _ z => by cases z)), q]; simp
    · by_cases hb : b = a
      · rw [hb, upd_same] at q
        cases q
        rw [hb]
        rcases hu with ⟨_, rfl⟩ | ⟨_, rfl⟩
        · exact dT_of_raw y g x d
        · exact dK_of_raw y g x d
      · rw [upd_ne hb] at q
        refine (I.hok b w q).stay (fun _ _ _ z => z) (fun c z => ?_) fun c xs z => ?_
        · rw [upd_ne (ne c _ z (fun _ z => by cases z) (fun _ z => by cases z))]; exact z
        · rw [upd_ne (ne c _ z (fun _ z => by cases z) (fun _ z => by cases z))]; exact z
  exact h0
end
/-! ### pairs of the small machine and of the heap -/
section
variable {G : Gx} {F : Fz} {ι : List Addr}
/-- what a look-up gives -/
def OptD (G : Gx) (F : Fz) (ι : List Addr) : Option W → Option V → Prop
  | some w, some v => Den G F ι w v
  | none, none => True
  | _, _ => False
theorem getDK (k : K1) : ∀ {kvs : List (Ky × W)} {q : List (L2.Key × V)}, DenDK G F ι kvs q → OptD G F ι (getK (.one k) kvs) (valV q (k1K k))
  | [], q, h => by simp only [DenDK] at h; subst h; exact trivial
  | (.one l, x) :: r, q, h => by
    simp only [DenDK] at h
    obtain ⟨v, z, rfl, d, h⟩ := h
    by_cases e : l = k
    · subst e
      rw [valV_pos rfl]
      simpa [getK, OptD] using d
    · rw [valV_neg (fun z => e (k1K_inj z))]
      have : ¬ Ky.one l = Ky.one k := fun z => e (Ky.one.inj z)
      simpa [getK, this] using getDK k h
  | (.many _, _) :: _, _, h => by simp only [DenDK] at h
theorem k1Ks_inj : ∀ {a b : List K1}, a.map k1K = b.map k1K → a = b
  | [], [], _ => rfl
  | [], _ :: _, h => by cases h
  | _ :: _, [], h => by cases h
  | x :: a, y :: b, h => by
    simp only [List.map_cons, List.cons.injEq] at h
    rw [k1K_inj h.1, k1Ks_inj h.2]
theorem getDT (ks : List K1) : ∀ {kvs : List (Ky × W)} {q : List (List L2.Key × V)}, DenDT G F ι kvs q → OptD G F ι (getK (.many ks) kvs) (valV q (ks.map k1K))
  | [], q, h => by simp only [DenDT] at h; subst h; exact trivial
  | (.many l, x) :: r, q, h => by
    simp only [DenDT] at h
    obtain ⟨v, z, rfl, d, h⟩ := h
    by_cases e : l = ks
    · subst e
      rw [valV_pos rfl]
      simpa [getK, OptD] using d
    · rw [valV_neg (fun z => e (k1Ks_inj z))]
      have : ¬ Ky.many l = Ky.many ks := fun z => e (Ky.many.inj z)
      simpa [getK, this] using getDT ks h
  | (.one _, _) :: _, _, h => by simp only [DenDT] at h
theorem hasDK (k : K1) : ∀ {kvs : List (Ky × W)} {q : List (L2.Key × V)}, DenDK G F ι kvs q → (q.any fun kv => decide (kv.1 = k1K k)) = hasK (.one k) kvs
  | [], q, h => by simp only [DenDK] at h; subst h; rfl
  | (.one l, x) :: r, q, h => by
    simp only [DenDK] at h
    obtain ⟨v, z, rfl, d, h⟩ := h
    have ih := hasDK k h
    simp only [hasK, List.any_cons] at ih ⊢
    rw [ih]
    congr 1
    by_cases e : l = k
    · subst e; simp
    · rw [decide_eq_false (fun z => e (k1K_inj z)), decide_eq_false (fun z => e (Ky.one.inj z))]
  | (.many _, _) :: _, _, h => by simp only [DenDK] at h
theorem hasDT (ks : List K1) : ∀ {kvs : List (Ky × W)} {q : List (List L2.Key × V)}, DenDT G F ι kvs q → (q.any fun kv => decide (kv.1 = ks.map k1K)) = hasK (.many ks) kvs
  | [], q, h => by simp only [DenDT] at h; subst h; rfl
  | (.many l, x) :: r, q, h => by
    simp only [DenDT] at h
    obtain ⟨v, z, rfl, d, h⟩ := h
    have ih := hasDT ks h
    simp only [hasK, List.any_cons] at ih ⊢
    rw [ih]
    congr 1
    by_cases e : l = ks
    · subst e; simp
    · rw [decide_eq_false (fun z => e (k1Ks_inj z)), decide_eq_false (fun z => e (Ky.many.inj z))]
  | (.one _, _) :: _, _, h => by simp only [DenDT] at h
theorem mapDK (k : K1) {w : W} {v : V} (d : Den G F ι w v) : ∀ {kvs : List (Ky × W)} {q : List (L2.Key × V)}, DenDK G F ι kvs q →
    DenDK G F ι (kvs.map fun p => if p.1 = .one k then (p.1, w) else p) (q.map fun kv => if kv.1 = k1K k then (kv.1, v) else kv)
  | [], q, h => by simp only [DenDK] at h; subst h; simp only [List.map_nil, DenDK]
  | (.one l, x) :: r, q, h => by
    simp only [DenDK] at h
    obtain ⟨u, z, rfl, e, h⟩ := h
    have ih := mapDK k d h
    by_cases q : l = k
    · subst q
      simp only [List.map_cons, if_true, DenDK]
      exact ⟨_, _, rfl, d, ih⟩
    · have h1 : ¬ Ky.one l = Ky.one k := fun z => q (Ky.one.inj z)
      have h2 : ¬ k1K l = k1K k := fun z => q (k1K_inj z)
      simp only [List.map_cons, if_neg h1, if_neg h2, DenDK]
      exact ⟨_, _, rfl, e, ih⟩
  | (.many _, _) :: _, _, h => by simp only [DenDK] at h
theorem mapDT (ks : List K1) {w : W} {v : V} (d : Den G F ι w v) : ∀ {kvs : List (Ky × W)} {q : List (List L2.Key × V)}, DenDT G F ι kvs q →
    DenDT G F ι (kvs.map fun p => if p.1 = .many ks then (p.1, w) else p) (q.map fun kv => if kv.1 = ks.map k1K then (kv.1, v) else kv)
  | [], q, h => by simp only [DenDT] at h; subst h; simp only [List.map_nil, DenDT]
  | (.many l, x) :: r, q, h => by
    simp only [DenDT] at h
    obtain ⟨u, z, rfl, e, h⟩ := h
    have ih := mapDT ks d h
    by_cases q : l = ks
    · subst q
      simp only [List.map_cons, if_true, DenDT]
      exact ⟨_, _, rfl, d, ih⟩
    · have h1 : ¬ Ky.many l = Ky.many ks := fun z => q (Ky.many.inj z)
      have h2 : ¬ l.map k1K = ks.map k1K := fun z => q (k1Ks_inj z)
      simp only [List.map_cons, if_neg h1, if_neg h2, DenDT]
      exact ⟨_, _, rfl, e, ih⟩
  | (.one _, _) :: _, _, h => by simp only [DenDT] at h
theorem appDK {k : K1} {w : W} {v : V} (d : Den G F ι w v) : ∀ {kvs : List (Ky × W)} {q : List (L2.Key × V)}, DenDK G F ι kvs q → DenDK G F ι (kvs ++ [(.one k, w)]) (q ++ [(k1K k, v)])
  | [], q, h => by
    simp only [DenDK] at h
    subst h
    simp only [List.nil_append, DenDK]
    exact ⟨v, [], rfl, d, rfl⟩
  | (.one l, x) :: r, q, h => by
    simp only [DenDK] at h
    obtain ⟨u, z, rfl, e, h⟩ := h
    simp only [List.cons_append, DenDK]
    exact ⟨u, _, rfl, e, appDK d h⟩
  | (.many _, _) :: _, _, h => by simp only [DenDK] at h
theorem appDT {ks : List K1} {w : W} {v : V} (d : Den G F ι w v) : ∀ {kvs : List (Ky × W)} {q : List (List L2.Key × V)}, DenDT G F ι kvs q → DenDT G F ι (kvs ++ [(.many ks, w)]) (q ++ [(ks.map k1K, v)])
  | [], q, h => by
    simp only [DenDT] at h
    subst h
    simp only [List.nil_append, DenDT]
    exact ⟨v, [], rfl, d, rfl⟩
  | (.many l, x) :: r, q, h => by
    simp only [DenDT] at h
    obtain ⟨u, z, rfl, e, h⟩ := h
    simp only [List.cons_append, DenDT]
    exact ⟨u, _, rfl, e, appDT d h⟩
  | (.one _, _) :: _, _, h => by simp only [DenDT] at h
theorem putDK {k : K1} {w : W} {v : V} (d : Den G F ι w v) {kvs : List (Ky × W)} {q : List (L2.Key × V)} (h : DenDK G F ι kvs q) : DenDK G F ι (putK (.one k) w kvs) (L2.putK q (k1K k) v) := by
  unfold putK L2.putK
  rw [hasDK k h]
  split
  · exact mapDK k d h
  · exact appDK d h
theorem putDT {ks : List K1} {w : W} {v : V} (d : Den G F ι w v) {kvs : List (Ky × W)} {q : List (List L2.Key × V)} (h : DenDT G F ι kvs q) : DenDT G F ι (putK (.many ks) w kvs) (L2.putK q (ks.map k1K) v) := by
  unfold putK L2.putK
  rw [hasDT ks h]
  split
  · exact mapDT ks d h
  · exact appDT d h
theorem delDK (k : K1) : ∀ {kvs : List (Ky × W)} {q : List (L2.Key × V)}, DenDK G F ι kvs q → DenDK G F ι (delK (.one k) kvs) (dropK q (k1K k))
  | [], q, h => by simp only [DenDK] at h; subst h; simp only [delK, dropK, List.filter_nil, DenDK]
  | (.one l, x) :: r, q, h => by
    simp only [DenDK] at h
    obtain ⟨u, z, rfl, e, h⟩ := h
    have ih := delDK k h
    unfold delK dropK at ih ⊢
    by_cases q : l = k
    · subst q
      simpa [List.filter_cons] using ih
    · have h1 : ¬ Ky.one l = Ky.one k := fun z => q (Ky.one.inj z)
      have h2 : ¬ k1K l = k1K k := fun z => q (k1K_inj z)
      rw [List.filter_cons_of_pos (by simpa using h1), List.filter_cons_of_pos (by simpa using h2)]
      simp only [DenDK]
      exact ⟨u, _, rfl, e, ih⟩
  | (.many _, _) :: _, _, h => by simp only [DenDK] at h
/-- a dict's pairs, by kind -/
theorem DenD.dk {kvs : List (Ky × W)} {o : HO} (h : DenD G F ι kvs o) : (∃ q, o = .dK q ∧ DenDK G F ι kvs q) ∨ ∃ q, o = .dT q ∧ DenDT G F ι kvs q := by
  cases kvs with
  | nil =>
    simp only [DenD] at h
    rcases h with h | h
    · exact .inl ⟨[], h, by simp only [DenDK]⟩
    · exact .inr ⟨[], h, by simp only [DenDT]⟩
  | cons p r =>
    obtain ⟨k, x⟩ := p
    cases k with
    | one k =>
      simp only [DenD] at h
      obtain ⟨v, q, e, d, h⟩ := h
      exact .inl ⟨_, e, by simp only [DenDK]; exact ⟨v, q, rfl, d, h⟩⟩
    | many k =>
      simp only [DenD] at h
      obtain ⟨v, q, e, d, h⟩ := h
      exact .inr ⟨_, e, by simp only [DenDT]; exact ⟨v, q, rfl, d, h⟩⟩
theorem DenD.ofK {kvs : List (Ky × W)} {q : List (L2.Key × V)} (h : DenDK G F ι kvs q) : DenD G F ι kvs (.dK q) := by
  cases kvs with
  | nil => simp only [DenDK] at h; subst h; simp [DenD]
  | cons p r =>
    obtain ⟨k, x⟩ := p
    cases k with
    | one k =>
      simp only [DenDK] at h
      obtain ⟨v, q, e, d, h⟩ := h
      subst e
      simp only [DenD]
      exact ⟨v, q, rfl, d, h⟩
    | many k => simp only [DenDK] at h
theorem DenD.ofT {kvs : List (Ky × W)} {q : List (List L2.Key × V)} (h : DenDT G F ι kvs q) : DenD G F ι kvs (.dT q) := by
  cases kvs with
  | nil => simp only [DenDT] at h; subst h; simp [DenD]
  | cons p r =>
    obtain ⟨k, x⟩ := p
    cases k with
    | many k =>
      simp only [DenDT] at h
      obtain ⟨v, q, e, d, h⟩ := h
      subst e
      simp only [DenD]
      exact ⟨v, q, rfl, d, h⟩
    | one k => simp only [DenDT] at h
theorem DenDK.length : ∀ {kvs : List (Ky × W)} {q : List (L2.Key × V)}, DenDK G F ι kvs q → q.length = kvs.length
  | [], q, h => by simp only [DenDK] at h; subst h; rfl
  | (.one l, x) :: r, q, h => by
    simp only [DenDK] at h
    obtain ⟨u, z, rfl, e, h⟩ := h
    simp [DenDK.length h]
  | (.many _, _) :: _, _, h => by simp only [DenDK] at h
theorem DenDT.length : ∀ {kvs : List (Ky × W)} {q : List (List L2.Key × V)}, DenDT G F ι kvs q → q.length = kvs.length
  | [], q, h => by simp only [DenDT] at h; subst h; rfl
  | (.many l, x) :: r, q, h => by
    simp only [DenDT] at h
    obtain ⟨u, z, rfl, e, h⟩ := h
    simp [DenDT.length h]
  | (.one _, _) :: _, _, h => by simp only [DenDT] at h
end
end Mn

end

section
set_option Elab.async false
set_option linter.all false
set_option maxRecDepth 100000
set_option maxHeartbeats 2000000
/-! Mini: comparisons, subscripts. -/
namespace Mn
open PySem PySem.Spec PyProof.Rows L2
section
variable {X : Cx} {G : Gx} {R : List Addr} {s : Sto} {ι : List Addr} {H : Hp}
theorem dct_den (S : Sim G R s ι H) {w : W} {v : V} (d : Den G (FzH G R s ι H) ι w v) {kvs : List (Ky × W)} (h : dctOf s w = some kvs) :
    ∃ a o, v = .ref a ∧ (Rd H a o ∧ (kvs = [] → H a = some o)) ∧ DenD G (FzH G R s ι H) ι kvs o := by
  cases w with
  | dct q =>
    cases h
    simp only [Den] at d
    obtain ⟨a, o, rfl, f, d⟩ := d
    refine ⟨a, o, rfl, ?_, d⟩
    rcases d.dk with ⟨q, e, d2⟩ | ⟨q, e, d2⟩
    · subst e
      refine ⟨f.2.1, fun e => f.2.2 ?_⟩
      have := d2.length
      rw [e] at this
      simpa using this
    · subst e
      refine ⟨f.2.1, fun e => f.2.2 ?_⟩
      have := d2.length
      rw [e] at this
      simpa using this
  | ref n =>
    simp only [dctOf] at h
    simp only [Den] at d
    obtain ⟨a, e, rfl⟩ := d
    cases q : s.get n with
    | none => rw [q] at h; cases h
    | some o =>
      rw [q] at h
      cases o with
      | dct lk kvs =>
        simp only at h
        split at h
        · cases h
        · rename_i hl
          cases h
          obtain ⟨b, h1, _, o, h3, h4⟩ := S.obj n _ q
          rw [e] at h1
          cases h1
          refine ⟨a, o, rfl, ?_, h4⟩
          split at h3
          · rename_i hk
            obtain ⟨ob, h3⟩ := h3
            exact ⟨.inr ⟨ob, h3⟩, fun e => absurd (by rw [hk, e]; rfl) hl⟩
          · exact ⟨.inl h3, fun _ => h3⟩
      | _ => cases h
  | _ => cases h
theorem toK1_den {w : W} {k : K1} (h : toK1 w = some k) {F : Fz} {y : V} (d : Den G F ι w y) : y = k1V k := by
  cases w with
  | int i => cases h; exact of_int d
  | str t => cases h; exact of_str d
  | _ => cases h
theorem toK1s_den : ∀ {ws : List W} {ks : List K1}, toK1s ws = some ks → ∀ {F : Fz} {vs : List V}, DenL G F ι ws vs → vs = ks.map k1V
  | [], ks, h, F, vs, d => by cases h; simpa [DenL] using d
  | w :: ws, ks, h, F, vs, d => by
    simp only [toK1s] at h
    split at h
    · rename_i k r e1 e2
      cases h
      simp only [DenL] at d
      obtain ⟨v, u, rfl, d1, d2⟩ := d
      rw [toK1_den e1 d1, toK1s_den e2 d2]
      rfl
    · cases h
/-- a key by the heap -/
theorem key_den {w : W} {k : Ky} (h : toKy w = some k) {y : V} (d : Den G (FzH G R s ι H) ι w y) :
    (∃ k1, k = .one k1 ∧ y = kV (k1K k1)) ∨ ∃ ks b, k = .many ks ∧ y = .ref b ∧ H b = some (.tup ((ks.map k1K).map kV)) := by
  cases w with
  | int i => cases h; exact .inl ⟨.int i, rfl, of_int d⟩
  | str t => cases h; exact .inl ⟨.str t, rfl, of_str d⟩
  | tup xs =>
    simp only [toKy, Option.map_eq_some_iff] at h
    obtain ⟨ks, e, rfl⟩ := h
    simp only [Den] at d
    obtain ⟨b, vs, rfl, f, d⟩ := d
    refine .inr ⟨ks, b, rfl, rfl, ?_⟩
    rw [List.map_map, show (kV ∘ k1K) = k1V from funext kV_k1K, ← toK1s_den e d]
    exact f.2
  | _ => cases h
theorem kyOk_one {k : K1} {p : Ky × W} {r : List (Ky × W)} {q : List (List L2.Key × V)} {F : Fz} (h : kyOk (.one k) (p :: r) = true) (d : DenDT G F ι (p :: r) q) : False := by
  obtain ⟨l, x⟩ := p
  cases l with
  | one _ => simp only [DenDT] at d
  | many _ => simp [kyOk] at h
theorem kyOk_many {k : List K1} {p : Ky × W} {r : List (Ky × W)} {q : List (L2.Key × V)} {F : Fz} (h : kyOk (.many k) (p :: r) = true) (d : DenDK G F ι (p :: r) q) : False := by
  obtain ⟨l, x⟩ := p
  cases l with
  | many _ => simp only [DenDK] at d
  | one _ => simp [kyOk] at h
/-- a look-up by the heap: as the abstract heap is, or in an empty dict -/
theorem get_den {a : Addr} {o : HO} {kvs : List (Ky × W)} (h : Rd H a o) (d : DenD G (FzH G R s ι H) ι kvs o) {w : W} {k : Ky} (hk : toKy w = some k) (ok : kyOk k kvs = true) {y : V} (dy : Den G (FzH G R s ι H) ι w y) :
    (∃ r, DGet H a y r ∧ OptD G (FzH G R s ι H) ι (getK k kvs) r) ∨ (kvs = [] ∧ (o = .dK [] ∨ o = .dT [])) := by
  rcases key_den hk dy with ⟨k1, rfl, rfl⟩ | ⟨ks, b, rfl, rfl, hb⟩
  · rcases d.dk with ⟨q, e, d2⟩ | ⟨q, e, d2⟩
    · subst e
      exact .inl ⟨_, .inl ⟨q, k1K k1, h, rfl, rfl⟩, getDK k1 d2⟩
    · cases kvs with
      | nil => simp only [DenDT] at d2; subst d2; exact .inr ⟨rfl, .inr e⟩
      | cons p r => exact (kyOk_one ok d2).elim
  · rcases d.dk with ⟨q, e, d2⟩ | ⟨q, e, d2⟩
    · cases kvs with
      | nil => simp only [DenDK] at d2; subst d2; exact .inr ⟨rfl, .inl e⟩
      | cons p r => exact (kyOk_many ok d2).elim
    · subst e
      exact .inl ⟨_, .inr ⟨q, _, b, h, rfl, hb, rfl⟩, getDT ks d2⟩
/-! ### in a dict -/
theorem upd_back {H : Hp} {a : Addr} {o u : HO} (h : H a = some o) : upd (upd H a u) a o = H := by
  funext b
  unfold upd
  by_cases e : b = a
  · rw [if_pos e, e]; exact h.symm
  · rw [if_neg e, if_neg e]
/-- a question to an empty dict -/
theorem ask_nil {pins : List (Addr × Obj)} {σ : L2.St} {st : Shared} {a : Addr} {o : HO} (I : Inv X pins σ H st) (h : H a = some o) (ho : o = .dK [] ∨ o = .dT []) {w : W} {k : Ky} (hk : toKy w = some k) {y : V} (dy : Den G (FzH G R s ι H) ι w y) :
    ∃ H', Inv X pins σ H' st ∧ DGet H' a y none ∧ ∀ st', Inv X pins σ H' st' → Inv X pins σ H st' := by
  have key : ∀ u, (u = .dK [] ∨ u = .dT []) → ∃ H', Inv X pins σ H' st ∧ H' a = some u ∧ (∀ b, b ≠ a → H' b = H b) ∧ ∀ st', Inv X pins σ H' st' → Inv X pins σ H st' := by
    intro u hu
    by_cases e : o = u
    · exact ⟨H, I, by rw [← e]; exact h, fun _ _ => rfl, fun _ I => I⟩
    · have hf : (o = .dK [] ∧ u = .dT []) ∨ (o = .dT [] ∧ u = .dK []) := by
        rcases ho with ho | ho <;> rcases hu with hu | hu
        · exact absurd (ho.trans hu.symm) e
        · exact .inl ⟨ho, hu⟩
        · exact .inr ⟨ho, hu⟩
        · exact absurd (ho.trans hu.symm) e
      refine ⟨upd H a u, inv_flip I hf h, upd_same, fun b hb => upd_ne hb, fun st' I' => ?_⟩
      have I2 := inv_flip I' (a := a) (u := u) (u' := o) (by rcases hf with ⟨p, q⟩ | ⟨p, q⟩; exact .inr ⟨q, p⟩; exact .inl ⟨q, p⟩) upd_same
      rw [upd_back h] at I2
      exact I2
  rcases key_den hk dy with ⟨k1, rfl, rfl⟩ | ⟨ks, b, rfl, rfl, hb⟩
  · obtain ⟨H', I', e, _, back⟩ := key (.dK []) (.inl rfl)
    exact ⟨H', I', .inl ⟨[], k1K k1, .inl e, rfl, rfl⟩, back⟩
  · obtain ⟨H', I', e, ne, back⟩ := key (.dT []) (.inr rfl)
    refine ⟨H', I', .inr ⟨[], ks.map k1K, b, .inl e, rfl, ?_, rfl⟩, back⟩
    rw [ne b]
    · exact hb
    · rintro rfl
      rw [h] at hb
      rcases ho with ho | ho <;> rw [ho] at hb <;> cases hb
end
end Mn

end

section
set_option Elab.async false
set_option linter.all false
set_option maxRecDepth 100000
set_option maxHeartbeats 2000000
/-! Mini: comparisons. -/
namespace Mn
open PySem PySem.Spec PyProof.Rows L2
section
variable {X : Cx} {G : Gx} {R : List Addr} {s : Sto} {ι : List Addr} {H : Hp}
theorem str_ne {a b : List Nat} : decide (V.str ⟨a.toArray⟩ = V.str ⟨b.toArray⟩) = decide (a = b) := by
  by_cases h : a = b
  · subst h; simp
  · rw [decide_eq_false h, decide_eq_false]
    intro z
    have := congrArg (fun q : V => match q with | .str x => x.cps.toList | _ => []) z
    exact h (by simpa using this)
/-- two empty dicts -/
theorem dk_raw {pins : List (Addr × Obj)} {σ : L2.St} {st : Shared} {a : Addr} (I : Inv X pins σ H st) (h : Rd H a (.dK []) ∨ Rd H a (.dT [])) : (a == sysModules) = false ∧ st.heap.DictOf (mixKind X.prog X.w) a [] := by
  have h2 : ObjOk X.prog X.w H st.heap a (.dT []) ∨ ObjOk X.prog X.w H st.heap a (.dK []) := by
    rcases h with h | h
    · exact .inr (h.ok I.hok)
    · exact .inl (h.ok I.hok)
  obtain ⟨y, o, ep, e, x, d⟩ := raw_nil h2
  exact ⟨y, o, #[], ep, e, x, d, fun i z => by simp at z, .nil, List.nodup_nil⟩
theorem eq_sound {pins : List (Addr × Obj)} {σ : L2.St} {st : Shared} {k0 : Nat} (hK : X.K = G.K) (hr : L2.Room k0 X.A) (I : Inv X pins σ H st) (S : Sim G R s ι H) {a b : W} {x y : V} {v u : Value}
    (rx : RelV x v) (ry : RelV y u) (da : Den G (FzH G R s ι H) ι a x) (db : Den G (FzH G R s ι H) ι b y) {k : Bool} (h : eqC s a b = some k) {Q : VK} (q : Q (.bl k) H) :
    wpAny (model X.prog X.w) X.A (compareOp .Eq v u) (EP X pins σ Q) X.xe st := by
  have hu := unit_ok hr
  have gen : (match datOf s a, datOf s b with
      | some a, some b => some (eqW a b)
      | _, _ => match dctOf s a, dctOf s b with
        | some [], some [] => some true
        | _, _ => none) = some k → wpAny (model X.prog X.w) X.A (compareOp .Eq v u) (EP X pins σ Q) X.xe st := by
    intro h
    split at h
    · rename_i a' b' ea eb
      cases h
      obtain ⟨h1, h2⟩ := datOf_den S da ea
      obtain ⟨h3, h4⟩ := datOf_den S db eb
      refine op_eqD hu pins st σ H x y v u Q I rx ry ⟨_, _, by rw [hK]; exact h2, by rw [hK]; exact h4, shaped_of (by omega) h1, shaped_of (by omega) h3, ?_⟩
      rw [eqv_of _ _ _ _ h1 h3]
      exact q
    · split at h
      · rename_i ea eb
        cases h
        obtain ⟨p, rfl, hp⟩ := dct_nil S da ea
        obtain ⟨p', rfl, hp'⟩ := dct_nil S db eb
        obtain ⟨y1, d1⟩ := dk_raw I hp
        obtain ⟨y2, d2⟩ := dk_raw I hp'
        obtain rfl : v = Value.ref p := rx
        obtain rfl : u = Value.ref p' := ry
        exact PySem.W.keq_eq (knd := mixKind X.prog X.w) (r := true) y1 y2 d1 d2 (by omega) (fun _ => hits_all (kvs := []) (ks := []) .nil .nil fun p hp => absurd hp (by simp)) (fin_bl I q (by simp))
      · cases h
  unfold eqC at h
  split at h
  · rename_i s1 s2
    cases h
    rw [of_str da] at rx
    rw [of_str db] at ry
    refine op_eq pins st σ H _ _ v u Q I rx ry ⟨rfl, ?_⟩
    rw [str_ne]
    exact q
  · exact gen h
theorem ne_sound {pins : List (Addr × Obj)} {σ : L2.St} {st : Shared} {k0 : Nat} (hK : X.K = G.K) (hr : L2.Room k0 X.A) (I : Inv X pins σ H st) (S : Sim G R s ι H) {a b : W} {x y : V} {v u : Value}
    (rx : RelV x v) (ry : RelV y u) (da : Den G (FzH G R s ι H) ι a x) (db : Den G (FzH G R s ι H) ι b y) {k : Bool} (h : eqC s a b = some k) {Q : VK} (q : Q (.bl (!k)) H) :
    wpAny (model X.prog X.w) X.A (compareOp .NotEq v u) (EP X pins σ Q) X.xe st := by
  have hu := unit_ok hr
  have gen : (match datOf s a, datOf s b with
      | some a, some b => some (eqW a b)
      | _, _ => match dctOf s a, dctOf s b with
        | some [], some [] => some true
        | _, _ => none) = some k → wpAny (model X.prog X.w) X.A (compareOp .NotEq v u) (EP X pins σ Q) X.xe st := by
    intro h
    split at h
    · rename_i a' b' ea eb
      cases h
      obtain ⟨h1, h2⟩ := datOf_den S da ea
      obtain ⟨h3, h4⟩ := datOf_den S db eb
      refine op_neD hu pins st σ H x y v u Q I rx ry ⟨_, _, by rw [hK]; exact h2, by rw [hK]; exact h4, shaped_of (by omega) h1, shaped_of (by omega) h3, ?_⟩
      rw [eqv_of _ _ _ _ h1 h3]
      exact q
    · split at h
      · rename_i ea eb
        cases h
        obtain ⟨p, rfl, hp⟩ := dct_nil S da ea
        obtain ⟨p', rfl, hp'⟩ := dct_nil S db eb
        obtain ⟨y1, d1⟩ := dk_raw I hp
        obtain ⟨y2, d2⟩ := dk_raw I hp'
        obtain rfl : v = Value.ref p := rx
        obtain rfl : u = Value.ref p' := ry
        exact PySem.W.keq_ne (knd := mixKind X.prog X.w) (r := true) y1 y2 d1 d2 (by omega) (fun _ => hits_all (kvs := []) (ks := []) .nil .nil fun p hp => absurd hp (by simp)) (fin_bl I q (by simp))
      · cases h
  unfold eqC at h
  split at h
  · rename_i s1 s2
    cases h
    rw [of_str da] at rx
    rw [of_str db] at ry
    refine op_ne pins st σ H _ _ v u Q I rx ry ⟨rfl, ?_⟩
    rw [str_ne]
    exact q
  · exact gen h
end
end Mn
namespace Mn
open PySem PySem.Spec PyProof.Rows L2
section
variable {X : Cx} {G : Gx} {R : List Addr} {s : Sto} {ι : List Addr} {H : Hp}
theorem mem_cps (c : Nat) (t : List Nat) : decide (c ∈ (⟨t.toArray⟩ : PySem.Str).cps.toList) = decide (c ∈ t) := by simp
theorem pdL_any (d : PyData) {n m : Nat} {w : W} (hw : dataW m w = true) (hd : d = pdW w) : ∀ (ws : List W), dataL n ws = true → (pdL ws).any (fun y => PyData.eqv y d) = ws.any fun y => eqW y w
  | [], _ => rfl
  | x :: xs, h => by
    have h1 : dataW n x = true ∧ dataL n xs = true := by simpa [dataL] using h
    simp only [pdL, List.any_cons]
    rw [pdL_any d hw hd xs h1.2, hd, eqv_of n m x w h1.1 hw]
/-- in, not in -/
theorem in_sound {pins : List (Addr × Obj)} {σ : L2.St} {st : Shared} {k0 : Nat} (hK : X.K = G.K) (hr : L2.Room k0 X.A) (I : Inv X pins σ H st) (S : Sim G R s ι H) {a b : W} {x y : V} {v u : Value}
    (rx : RelV x v) (ry : RelV y u) (da : Den G (FzH G R s ι H) ι a x) (db : Den G (FzH G R s ι H) ι b y) {k : Bool} (h : inW s a b = some k) {Q : VK} :
    (Q (.bl k) H → wpAny (model X.prog X.w) X.A (compareOp .In v u) (EP X pins σ Q) X.xe st) ∧ (Q (.bl (!k)) H → wpAny (model X.prog X.w) X.A (compareOp .NotIn v u) (EP X pins σ Q) X.xe st) := by
  have hu := unit_ok hr
  have un := hr.un
  have gen : (match dctOf s b with
    | some kvs => (toKy a).bind fun k => if kyOk k kvs = true then some (getK k kvs).isSome else none
    | none => match seqOf s b, datOf s a with
      | some ys, some x' => if dataL 48 ys then some (ys.any fun y => eqW y x') else none
      | _, _ => none) = some k → ((Q (.bl k) H → wpAny (model X.prog X.w) X.A (compareOp .In v u) (EP X pins σ Q) X.xe st) ∧ (Q (.bl (!k)) H → wpAny (model X.prog X.w) X.A (compareOp .NotIn v u) (EP X pins σ Q) X.xe st)) := by
    intro h
    split at h
    · rename_i kvs e
      simp only [Option.bind_eq_some_iff] at h
      obtain ⟨ky, hk, h⟩ := h
      split at h
      · rename_i ok
        cases h
        obtain ⟨p, o, rfl, ⟨rd, r0⟩, dd⟩ := dct_den S db e
        obtain rfl : u = Value.ref p := ry
        rcases get_den rd dd hk ok da with ⟨r, g, od⟩ | ⟨e0, ho⟩
        · have es : r.isSome = (getK ky kvs).isSome := by
            cases q1 : getK ky kvs <;> cases q2 : r <;> rw [q1, q2] at od <;> first | rfl | exact od.elim
          refine ⟨fun q => d_in (by omega) I g rx fun st' I' => ⟨.bl _, H, I', rfl, ?_⟩, fun q => d_notIn (by omega) I g rx fun st' I' => ⟨.bl _, H, I', rfl, ?_⟩⟩
          · rw [es]; exact q
          · rw [es]; exact q
        · obtain ⟨H', I', g, back⟩ := ask_nil I (r0 e0) ho hk da
          subst e0
          refine ⟨fun q => d_in (by omega) I' g rx fun st' I2 => ⟨.bl _, H, back _ I2, rfl, q⟩, fun q => d_notIn (by omega) I' g rx fun st' I2 => ⟨.bl _, H, back _ I2, rfl, q⟩⟩
      · cases h
    · split at h
      · rename_i ys x' e1 e2
        split at h
        · rename_i hd
          cases h
          obtain ⟨h1, h2⟩ := datOf_den S da e2
          obtain ⟨as, r1⟩ := Dp.reads I _ x v (by rw [hK]; exact h2) rx
          obtain ⟨c1, c2⟩ := lay_of 49 x' h1
          obtain ⟨c3, c4⟩ := lay_ofL 48 ys hd
          have room : X.A.units + 1 + min (PyData.depthAll (pdL ys)) (pdW x').depth < cLine := by omega
          have an : (pdL ys).any (fun y => PyData.eqv y (pdW x')) = ys.any fun y => eqW y x' := pdL_any _ h1 rfl ys hd
          cases b with
          | tup zs =>
            have e1' : zs = ys := Option.some.inj e1
            rw [e1'] at db
            simp only [Den] at db
            obtain ⟨p, vs, rfl, f, db'⟩ := db
            obtain ⟨bs, r2⟩ := Dp.reads I (.tuple (pdL ys)) (.ref p) u (.tup (SqT.of f.2) (by rw [hK]; exact dp_ofL 48 ys vs hd db')) ry
            exact ⟨fun q => SeqAt.in_tuple_reads r2 r1 c3 c1 room ⟨.bl _, H, I, rfl, by rw [an]; exact q⟩, fun q => SeqAt.notIn_tuple_reads r2 r1 c3 c1 room ⟨.bl _, H, I, rfl, by rw [an]; exact q⟩⟩
          | ctp zs =>
            have e1' : zs = ys := Option.some.inj e1
            rw [e1'] at db
            simp only [Den] at db
            obtain ⟨p, ob, vs, rfl, f, db'⟩ := db
            obtain ⟨bs, r2⟩ := Dp.reads I (.tuple (pdL ys)) (.ref p) u (.tup (.inl (.inr ⟨_, f.2⟩)) (by rw [hK]; exact dp_ofL 48 ys vs hd db')) ry
            exact ⟨fun q => SeqAt.in_tuple_reads r2 r1 c3 c1 room ⟨.bl _, H, I, rfl, by rw [an]; exact q⟩, fun q => SeqAt.notIn_tuple_reads r2 r1 c3 c1 room ⟨.bl _, H, I, rfl, by rw [an]; exact q⟩⟩
          | _ =>
            obtain ⟨p, vs, rfl, f, db'⟩ := lst_den S db (xs := ys) e1
            obtain ⟨bs, r2⟩ := Dp.reads I (.list (pdL ys)) (.ref p) u (.lst (.inl f) (by rw [hK]; exact dp_ofL 48 ys vs hd db')) ry
            exact ⟨fun q => SeqAt.in_list_reads r2 r1 c3 c1 room ⟨.bl _, H, I, rfl, by rw [an]; exact q⟩, fun q => SeqAt.notIn_list_reads r2 r1 c3 c1 room ⟨.bl _, H, I, rfl, by rw [an]; exact q⟩⟩
        · cases h
      · cases h
  cases b with
  | str t =>
    simp only [inW] at h
    split at h
    · rename_i c
      cases h
      rw [of_str da] at rx
      rw [of_str db] at ry
      have e : (⟨[c].toArray⟩ : PySem.Str) = ⟨#[c]⟩ := rfl
      rw [e] at rx
      exact ⟨fun q => op_in_sign pins st σ H _ _ v u Q I rx ry ⟨c, _, rfl, rfl, by rw [mem_cps]; exact q⟩, fun q => op_notIn_sign pins st σ H _ _ v u Q I rx ry ⟨c, _, rfl, rfl, by rw [mem_cps]; exact q⟩⟩
    · cases h
  | _ => exact gen h
theorem op_c2 {k0 : Nat} (hK : X.K = G.K) (hr : L2.Room k0 X.A) (o : C2) : OpR X (compareOp (c2o o)) (r2 G (c2W o)) := by
  intro pins st σ H x y v u Q I rx ry h
  obtain ⟨R, s, ι, a, b, w, s', S, da, db, e, K⟩ := h
  obtain ⟨k, e2, rfl, rfl⟩ := c2W_some e
  clear e
  have e := e2
  have q : Q (.bl k) H := K ι H _ (Step.refl S) den_bl
  unfold c2B at e
  split at e
  · exact eq_sound hK hr I S rx ry da db e q
  · simp only [Option.map_eq_some_iff] at e
    obtain ⟨k', e, rfl⟩ := e
    exact ne_sound hK hr I S rx ry da db e q
  · cases e; rw [of_int da] at rx; rw [of_int db] at ry
    exact op_lt pins st σ H _ _ v u Q I rx ry ⟨_, _, rfl, rfl, q⟩
  · cases e; rw [of_int da] at rx; rw [of_int db] at ry
    exact op_le pins st σ H _ _ v u Q I rx ry ⟨_, _, rfl, rfl, q⟩
  · cases e; rw [of_int da] at rx; rw [of_int db] at ry
    exact op_gt pins st σ H _ _ v u Q I rx ry ⟨_, _, rfl, rfl, q⟩
  · cases e; rw [of_int da] at rx; rw [of_int db] at ry
    exact op_ge pins st σ H _ _ v u Q I rx ry ⟨_, _, rfl, rfl, q⟩
  · exact (in_sound hK hr I S rx ry da db e).1 q
  · simp only [Option.map_eq_some_iff] at e
    obtain ⟨k', e, rfl⟩ := e
    exact (in_sound hK hr I S rx ry da db e).2 q
  · cases e
end
end Mn

end

section
set_option Elab.async false
set_option linter.all false
set_option maxRecDepth 100000
set_option maxHeartbeats 2000000
/-! Mini: new live objects, stores, freezing. -/
namespace Mn
open PySem PySem.Spec PyProof.Rows L2
section
variable {X : Cx} {G : Gx} {R : List Addr} {s : Sto} {ι : List Addr} {H : Hp}
theorem FzH.there {a : Addr} {o : HO} (h : FzH G R s ι H a o) : H a ≠ none := by
  have rd : ∀ u, Rd H a u → H a ≠ none := fun u r z => by
    rcases r with r | ⟨_, r⟩ <;> rw [z] at r <;> cases r
  have h2 := h.2
  cases o with
  | tup vs => exact fun z => by rw [z] at h2; cases h2
  | lst vs => exact rd _ h2
  | dK kvs => exact rd _ h2.1
  | dT kvs => exact rd _ h2.1
  | ins C dx fs => exact fun z => by rw [z] at h2; cases h2
  | xd fs => exact fun z => by rw [z] at h2; cases h2
  | frz ob u => exact fun z => by rw [z] at h2; cases h2
  | _ => exact h2.elim
theorem get_app {ι : List Addr} {p : Addr} {n : Nat} {a : Addr} (h : ι[n]? = some a) : (ι ++ [p])[n]? = some a := by
  have hl : n < ι.length := (List.getElem?_eq_some_iff.mp h).1
  rw [List.getElem?_append_left hl]
  exact h
/-- a new object of the store -/
theorem Step.new (S : Sim G R s ι H) {p : Addr} (hp : H p = none) {ho : HO} {so : SO}
    (d : ∀ F' : Fz, (∀ a o, FzH G R s ι H a o → F' a o) → ODen G F' (ι ++ [p]) (upd H p ho) p so) : Step G R s ι H (s.new so) (ι ++ [p]) (upd H p ho) ∧ ∀ F' : Fz, Den G F' (ι ++ [p]) (.ref s.nxt) (.ref p) := by
  have at0 : (ι ++ [p])[s.nxt]? = some p := by
    rw [← S.len]
    simp
  have ne : ∀ n o, s.get n = some o → n ≠ s.nxt := fun n o e => Nat.ne_of_lt (S.lt n o e)
  have gn : ∀ n o, (s.new so).get n = some o → (n = s.nxt ∧ o = so) ∨ (n ≠ s.nxt ∧ s.get n = some o) := fun n o e => by
    unfold Sto.new at e
    by_cases h : n = s.nxt
    · simp only [if_pos h] at e
      exact .inl ⟨h, (Option.some.inj e).symm⟩
    · simp only [if_neg h] at e
      exact .inr ⟨h, e⟩
  have live : ∀ b, Live (s.new so) (ι ++ [p]) b → b = p ∨ Live s ι b := fun b ⟨n, o, e, f⟩ => by
    rcases gn n o e with ⟨rfl, _⟩ | ⟨h, e⟩
    · rw [at0] at f
      exact .inl (Option.some.inj f).symm
    · obtain ⟨a, h1, _⟩ := S.obj n o e
      rw [get_app h1] at f
      cases f
      exact .inr ⟨n, o, e, h1⟩
  have fz : ∀ a o, FzH G R s ι H a o → FzH G R (s.new so) (ι ++ [p]) (upd H p ho) a o := fun a o h => by
    have h1 := (h.laid (o := ho) hp).2
    refine ⟨⟨fun l => ?_, h.1.2⟩, h1⟩
    rcases live a l with e | l
    · exact h.there (by rw [e]; exact hp)
    · exact h.1.1 l
  have pR : p ∉ R := fun z => S.res p z hp
  refine ⟨⟨⟨?_, ?_, ?_, ?_, ?_, ?_, ?_, ?_⟩, fun n a h => get_app h, fz, fun a ha => upd_ne fun z => S.res a ha (by rw [z]; exact hp), fun a ob u h => (upd_ne (ne_of_none h hp)).trans h⟩, fun F' => ?_⟩
  · show (ι ++ [p]).length = s.nxt + 1
    rw [List.length_append, S.len]
    rfl
  · intro n o e
    show n < s.nxt + 1
    rcases gn n o e with ⟨rfl, _⟩ | ⟨_, e⟩
    · omega
    · have := S.lt n o e
      omega
  · intro n m a o u e1 e2 f1 f2
    rcases gn n o e1 with ⟨rfl, _⟩ | ⟨h1, e1⟩
    · rcases gn m u e2 with ⟨rfl, _⟩ | ⟨h2, e2⟩
      · rfl
      · obtain ⟨b, k1, _⟩ := S.obj m u e2
        rw [get_app k1] at f2
        rw [at0] at f1
        cases f1
        cases f2
        exact (Live.tracked S ⟨m, u, e2, k1⟩ hp).elim
    · obtain ⟨b, k1, _⟩ := S.obj n o e1
      rw [get_app k1] at f1
      cases f1
      rcases gn m u e2 with ⟨rfl, _⟩ | ⟨h2, e2⟩
      · rw [at0] at f2
        cases f2
        exact (Live.tracked S ⟨n, o, e1, k1⟩ hp).elim
      · obtain ⟨c, k2, _⟩ := S.obj m u e2
        rw [get_app k2] at f2
        cases f2
        exact S.inj n m _ o u e1 e2 k1 k2
  · intro n o e
    rcases gn n o e with ⟨rfl, rfl⟩ | ⟨_, e⟩
    · exact ⟨p, at0, pR, d _ fz⟩
    · obtain ⟨a, h1, h2, h3⟩ := S.obj n o e
      refine ⟨a, get_app h1, h2, h3.mono fz (fun _ _ h => get_app h) (upd_ne ?_)⟩
      rintro rfl
      exact Live.tracked S ⟨n, o, e, h1⟩ hp
  · intro a ha
    rw [upd_ne (fun z => S.res a ha (by rw [z]; exact hp))]
    exact S.res a ha
  · exact S.tab.ext fun b u e => (upd_ne (ne_of_none e hp)).trans e
  · exact fun q hq => (S.con q hq).mono fz fun _ _ h => get_app h
  · intro a ha vs
    rw [upd_ne (fun z => S.res a ha (by rw [z]; exact hp))]
    exact S.rnt a ha vs
  · simp only [Den]
    exact ⟨p, at0, rfl⟩
/-- what a live object is in the heap -/
def plainO : HO → Prop
  | .lst _ => True
  | .dK _ => True
  | .dT _ => True
  | .ins _ _ _ => True
  | _ => False
/-- .. or locked -/
def lockO : HO → Prop
  | .frz _ (.dK _) => True
  | .frz _ (.dT _) => True
  | u => plainO u
theorem tab_set {a : Addr} {u o : HO} (h : H a = some u) (hu : lockO u) (t : LamX.Tabs G.T H) : LamX.Tabs G.T (upd H a o) := fun p hp => by
  obtain ⟨ps, e1, e2, e3⟩ := t p hp
  have n1 : p.1 ≠ a := fun z => by
    rw [z, h] at e1
    rw [Option.some.inj e1] at hu
    exact hu
  refine ⟨ps, by rw [upd_ne n1]; exact e1, e2, fun pos cv hc => ?_⟩
  obtain ⟨c, f1, f2⟩ := e3 pos cv hc
  refine ⟨c, f1, ?_⟩
  rw [upd_ne (fun z => by
    rw [z, h] at f2
    rw [Option.some.inj f2] at hu
    exact hu)]
  exact f2
/-- a live object is written -/
theorem Step.set (S : Sim G R s ι H) {n : Nat} {so0 so : SO} {a : Addr} (hn : s.get n = some so0) (ha : ι[n]? = some a) {u o : HO} (hu : H a = some u) (pu : plainO u)
    (d : ∀ F' : Fz, (∀ a o, FzH G R s ι H a o → F' a o) → ODen G F' ι (upd H a o) a so) : Step G R s ι H (s.set n so) ι (upd H a o) := by
  have aL : Live s ι a := ⟨n, so0, hn, ha⟩
  have aR : a ∉ R := by
    obtain ⟨b, h1, h2, _⟩ := S.obj n so0 hn
    rw [ha] at h1
    cases h1
    exact h2
  have gn : ∀ m o, (s.set n so).get m = some o → (m = n ∧ o = so) ∨ (m ≠ n ∧ s.get m = some o) := fun m o e => by
    unfold Sto.set at e
    by_cases h : m = n
    · simp only [if_pos h] at e
      exact .inl ⟨h, (Option.some.inj e).symm⟩
    · simp only [if_neg h] at e
      exact .inr ⟨h, e⟩
  have live : ∀ b, Live (s.set n so) ι b → Live s ι b := fun b ⟨m, o, e, f⟩ => by
    rcases gn m o e with ⟨rfl, _⟩ | ⟨_, e⟩
    · exact ⟨m, so0, hn, f⟩
    · exact ⟨m, o, e, f⟩
  have fz : ∀ b o', FzH G R s ι H b o' → FzH G R (s.set n so) ι (upd H a o) b o' := fun b o' h => by
    have nb : b ≠ a := fun z => h.1.1 (by rw [z]; exact aL)
    refine ⟨⟨fun l => h.1.1 (live b l), h.1.2⟩, ?_⟩
    have h2 := h.2
    have rd : ∀ w, Rd H b w → Rd (upd H a o) b w := fun w r => by
      unfold Rd at r ⊢
      rw [upd_ne nb]
      exact r
    cases o' with
    | tup vs => exact (upd_ne nb).trans h2
    | frz ob u => exact (upd_ne nb).trans h2
    | lst vs => exact rd _ h2
    | dK kvs => exact ⟨rd _ h2.1, fun e => (upd_ne nb).trans (h2.2 e)⟩
    | dT kvs => exact ⟨rd _ h2.1, fun e => (upd_ne nb).trans (h2.2 e)⟩
    | ins C dx fs => exact (upd_ne nb).trans h2
    | xd fs => exact (upd_ne nb).trans h2
    | _ => exact h2.elim
  refine ⟨⟨S.len, fun m o e => ?_, fun m k b o v e1 e2 f1 f2 => ?_, fun m o' e => ?_, fun b hb => ?_, tab_set hu (by cases u <;> first | exact pu | exact pu.elim) S.tab, fun q hq => (S.con q hq).mono fz fun _ _ h => h, fun b hb vs => by rw [upd_ne (fun z => aR (by rw [← z]; exact hb))]; exact S.rnt b hb vs⟩, fun _ _ h => h, fz, fun b hb => upd_ne fun z => aR (by rw [← z]; exact hb), fun b ob w h => (upd_ne fun z => by rw [z, hu] at h; cases h; exact pu.elim).trans h⟩
  · show m < s.nxt
    rcases gn m o e with ⟨rfl, _⟩ | ⟨_, e⟩
    · exact S.lt m _ hn
    · exact S.lt m o e
  · rcases gn m o e1 with ⟨z1, _⟩ | ⟨_, e3⟩
    · rcases gn k v e2 with ⟨z2, _⟩ | ⟨_, e4⟩
      · rw [z1, z2]
      · rw [z1] at f1 ⊢
        exact S.inj n k b _ _ hn e4 f1 f2
    · rcases gn k v e2 with ⟨z2, _⟩ | ⟨_, e4⟩
      · rw [z2] at f2 ⊢
        exact S.inj m n b _ _ e3 hn f1 f2
      · exact S.inj m k b _ _ e3 e4 f1 f2
  · rcases gn m o' e with ⟨rfl, rfl⟩ | ⟨nm, e⟩
    · exact ⟨a, ha, aR, d _ fz⟩
    · obtain ⟨b, h1, h2, h3⟩ := S.obj m o' e
      refine ⟨b, h1, h2, h3.mono fz (fun _ _ h => h) (upd_ne ?_)⟩
      rintro rfl
      exact nm (S.inj m n _ _ _ e hn h1 ha)
  · by_cases e : b = a
    · exact (aR (by rw [← e]; exact hb)).elim
    · rw [upd_ne e]; exact S.res b hb
/-- a live object is frozen -/
theorem Step.freeze (S : Sim G R s ι H) {n : Nat} {so0 : SO} {a : Addr} (hn : s.get n = some so0) (ha : ι[n]? = some a) : Step G R s ι H (s.del n) ι H ∧ a ∉ R ∧ ¬ Live (s.del n) ι a := by
  have aR : a ∉ R := by
    obtain ⟨b, h1, h2, _⟩ := S.obj n so0 hn
    rw [ha] at h1
    cases h1
    exact h2
  have gn : ∀ m o, (s.del n).get m = some o → m ≠ n ∧ s.get m = some o := fun m o e => by
    unfold Sto.del at e
    by_cases h : m = n
    · simp only [if_pos h] at e; cases e
    · simp only [if_neg h] at e
      exact ⟨h, e⟩
  have live : ∀ b, Live (s.del n) ι b → Live s ι b := fun b ⟨m, o, e, f⟩ => ⟨m, o, (gn m o e).2, f⟩
  have fz : ∀ b o', FzH G R s ι H b o' → FzH G R (s.del n) ι H b o' := fun b o' h => ⟨⟨fun l => h.1.1 (live b l), h.1.2⟩, h.2⟩
  refine ⟨⟨⟨S.len, fun m o e => S.lt m o (gn m o e).2, fun m k b o v e1 e2 f1 f2 => S.inj m k b o v (gn m o e1).2 (gn k v e2).2 f1 f2, fun m o' e => ?_, S.res, S.tab, fun q hq => (S.con q hq).mono fz fun _ _ h => h, S.rnt⟩, fun _ _ h => h, fz, fun _ _ => rfl, fun _ _ _ h => h⟩, aR, fun ⟨m, o, e, f⟩ => (gn m o e).1 (S.inj m n a o so0 (gn m o e).2 hn f ha)⟩
  obtain ⟨b, h1, h2, h3⟩ := S.obj m o' (gn m o' e).2
  exact ⟨b, h1, h2, h3.mono fz (fun _ _ h => h) rfl⟩
theorem freeze_ok (S : Sim G R s ι H) {w w' : W} {s' : Sto} {v : V} (d : Den G (FzH G R s ι H) ι w v) (h : frzW w s = some (w', s')) :
    Step G R s ι H s' ι H ∧ Den G (FzH G R s' ι H) ι w' v := by
  have same : some (w, s) = some (w', s') → Step G R s ι H s' ι H ∧ Den G (FzH G R s' ι H) ι w' v := fun h => by
    cases h
    exact ⟨Step.refl S, d⟩
  cases w with
  | ref n =>
    simp only [Den] at d
    obtain ⟨a, ha, rfl⟩ := d
    simp only [frzW] at h
    cases q : s.get n with
    | none => rw [q] at h; cases h
    | some o =>
      rw [q] at h
      obtain ⟨T, aR, nl⟩ := Step.freeze S q ha
      obtain ⟨b, h1, _, h3⟩ := S.obj n o q
      rw [ha] at h1
      cases h1
      cases o with
      | lst xs =>
        cases h
        obtain ⟨vs, e, dl⟩ := h3
        refine ⟨T, ?_⟩
        simp only [Den]
        exact ⟨a, vs, rfl, ⟨⟨nl, aR⟩, .inl e⟩, T.denL dl⟩
      | dct lk kvs =>
        cases lk with
        | true => cases h
        | false =>
          cases h
          obtain ⟨u, e, dl⟩ := h3
          refine ⟨T, ?_⟩
          simp only [Den]
          have e : H a = some u := e
          refine ⟨a, u, rfl, ⟨⟨nl, aR⟩, ?_⟩, dl.mono T.frz T.pre⟩
          rcases dl.dk with ⟨q, eu, _⟩ | ⟨q, eu, _⟩
          · subst eu; exact ⟨.inl e, fun _ => e⟩
          · subst eu; exact ⟨.inl e, fun _ => e⟩
      | ins c fs =>
        cases h
        obtain ⟨dx, fvs, e, dl⟩ := h3
        refine ⟨T, ?_⟩
        simp only [Den]
        exact ⟨a, dx, fvs, rfl, ⟨⟨nl, aR⟩, e⟩, dl.mono T.frz T.pre⟩
  | _ => exact same h
/-- only tables grow -/
theorem Step.tabs (S : Sim G R s ι H) {H1 : Hp} (e : LamX.ExtN H H1) (T : LamX.Tabs G.T H1) : Step G R s ι H s ι H1 := by
  have rd : ∀ {a u}, (∀ ps, u ≠ .tbl ps) → Rd H a u → Rd H1 a u := fun {a u} n h => by
    rcases h with h | ⟨o, h⟩
    · exact .inl (e _ _ h n)
    · exact .inr ⟨o, e _ _ h fun ps z => by cases z⟩
  have fz : ∀ a u, FzH G R s ι H a u → FzH G R s ι H1 a u := fun a u h => by
    refine ⟨h.1, ?_⟩
    have h2 := h.2
    cases u with
    | tup vs => exact e _ _ h2 fun ps z => by cases z
    | frz ob u => exact e _ _ h2 fun ps z => by cases z
    | lst vs => exact rd (fun ps z => by cases z) h2
    | dK kvs => exact ⟨rd (fun ps z => by cases z) h2.1, fun q => e _ _ (h2.2 q) fun ps z => by cases z⟩
    | dT kvs => exact ⟨rd (fun ps z => by cases z) h2.1, fun q => e _ _ (h2.2 q) fun ps z => by cases z⟩
    | ins C dx fs => exact e _ _ h2 fun ps z => by cases z
    | xd fs => exact e _ _ h2 fun ps z => by cases z
    | _ => exact h2.elim
  have rs : ∀ a ∈ R, H1 a = H a := fun a ha => by
    cases q : H a with
    | none => exact (S.res a ha q).elim
    | some u =>
      refine e _ _ q fun ps z => ?_
      have := S.rnt a ha u q
      rw [z] at this
      exact this
  have od : ∀ a o, H a ≠ none → ODen G (FzH G R s ι H) ι H a o → ODen G (FzH G R s ι H1) ι H1 a o := fun a o ha h => by
    refine h.mono fz (fun _ _ h => h) ?_
    cases o with
    | lst xs => obtain ⟨vs, q, _⟩ := h; rw [q]; exact e _ _ q fun ps z => by cases z
    | dct lk kvs =>
      obtain ⟨o, q, d⟩ := h
      by_cases hl : lk = true
      · rw [if_pos hl] at q
        obtain ⟨ob, q⟩ := q
        rw [q]
        exact e _ _ q fun ps z => by cases z
      · rw [if_neg hl] at q
        rw [q]
        refine e _ _ q fun ps z => ?_
        subst z
        rcases d.dk with ⟨q, eu, _⟩ | ⟨q, eu, _⟩ <;> cases eu
    | ins c fs => obtain ⟨dx, fvs, q, _⟩ := h; rw [q]; exact e _ _ q fun ps z => by cases z
  refine ⟨⟨S.len, S.lt, S.inj, fun n o h => ?_, fun a ha => by rw [rs a ha]; exact S.res a ha, T, fun q hq => (S.con q hq).mono fz fun _ _ h => h, fun a ha u hu => S.rnt a ha u (by rw [← rs a ha]; exact hu)⟩, fun _ _ h => h, fz, rs, fun a ob u h => e _ _ h fun ps z => by cases z⟩
  obtain ⟨a, h1, h2, h3⟩ := S.obj n o h
  exact ⟨a, h1, h2, od a o (Live.tracked S ⟨n, o, h, h1⟩) h3⟩
/-- a dict is locked, what is done meanwhile, the dict is unlocked -/
theorem Step.lock (S : Sim G R s ι H) {n : Nat} {kvs : List (Ky × W)} {a : Addr} {o : HO} (hn : s.get n = some (.dct false kvs)) (ha : ι[n]? = some a) (ho : H a = some o) (d : DenD G (FzH G R s ι H) ι kvs o) (ob : Obj) :
    Step G R s ι H (s.set n (.dct true kvs)) ι (upd H a (.frz ob o)) := by
  refine Step.set S hn ha ho ?_ fun F' hF => ⟨o, ?_, d.mono hF fun _ _ h => h⟩
  · rcases d.dk with ⟨q, rfl, _⟩ | ⟨q, rfl, _⟩ <;> trivial
  · rw [if_pos rfl]
    exact ⟨ob, upd_same⟩
theorem Step.locked (S : Sim G R s ι H) {n : Nat} {kvs kvs' : List (Ky × W)} {a : Addr} {o : HO} (hn : s.get n = some (.dct false kvs)) (ha : ι[n]? = some a) (ho : H a = some o) (d : DenD G (FzH G R s ι H) ι kvs o) {ob : Obj}
    {s' : Sto} {ι' : List Addr} {H' : Hp} (T : Step G R (s.set n (.dct true kvs)) ι (upd H a (.frz ob o)) s' ι' H') (hn' : s'.get n = some (.dct true kvs')) :
    H' a = some (.frz ob o) ∧ Step G R s ι H (s'.set n (.dct false kvs')) ι' (upd H' a o) ∧ ∀ b u, FzH G R s' ι' H' b u → FzH G R (s'.set n (.dct false kvs')) ι' (upd H' a o) b u := by
  have T0 := Step.lock S hn ha ho d ob
  have S' := T.sim
  have e1 : H' a = some (.frz ob o) := T.lkd a ob o upd_same
  have ha' := T.pre n a ha
  have pl : plainO o := by rcases d.dk with ⟨q, rfl, _⟩ | ⟨q, rfl, _⟩ <;> trivial
  have lo : lockO (.frz ob o) := by rcases d.dk with ⟨q, rfl, _⟩ | ⟨q, rfl, _⟩ <;> trivial
  have aR : a ∉ R := by
    obtain ⟨b, h1, h2, _⟩ := S.obj n _ hn
    rw [ha] at h1
    cases h1
    exact h2
  have aL : Live s' ι' a := ⟨n, _, hn', ha'⟩
  have gn : ∀ m o, (s'.set n (.dct false kvs')).get m = some o → (m = n ∧ o = .dct false kvs') ∨ (m ≠ n ∧ s'.get m = some o) := fun m o e => by
    unfold Sto.set at e
    by_cases h : m = n
    · simp only [if_pos h] at e
      exact .inl ⟨h, (Option.some.inj e).symm⟩
    · simp only [if_neg h] at e
      exact .inr ⟨h, e⟩
  have live : ∀ b, Live (s'.set n (.dct false kvs')) ι' b → Live s' ι' b := fun b ⟨m, o, e, f⟩ => by
    rcases gn m o e with ⟨rfl, _⟩ | ⟨_, e⟩
    · exact ⟨m, _, hn', f⟩
    · exact ⟨m, o, e, f⟩
  have fz : ∀ b o', FzH G R s' ι' H' b o' → FzH G R (s'.set n (.dct false kvs')) ι' (upd H' a o) b o' := fun b o' h => by
    have nb : b ≠ a := fun z => h.1.1 (by rw [z]; exact aL)
    refine ⟨⟨fun l => h.1.1 (live b l), h.1.2⟩, ?_⟩
    have h2 := h.2
    have rd : ∀ w, Rd H' b w → Rd (upd H' a o) b w := fun w r => by
      unfold Rd at r ⊢
      rw [upd_ne nb]
      exact r
    cases o' with
    | tup vs => exact (upd_ne nb).trans h2
    | frz ob u => exact (upd_ne nb).trans h2
    | lst vs => exact rd _ h2
    | dK kvs => exact ⟨rd _ h2.1, fun e => (upd_ne nb).trans (h2.2 e)⟩
    | dT kvs => exact ⟨rd _ h2.1, fun e => (upd_ne nb).trans (h2.2 e)⟩
    | ins C dx fs => exact (upd_ne nb).trans h2
    | xd fs => exact (upd_ne nb).trans h2
    | _ => exact h2.elim
  refine ⟨e1, ⟨⟨S'.len, fun m o e => ?_, fun m k b o v e1 e2 f1 f2 => ?_, fun m o' e => ?_, fun b hb => ?_, tab_set e1 lo S'.tab, fun q hq => (S'.con q hq).mono fz fun _ _ h => h, fun b hb vs => by rw [upd_ne (fun z => aR (by rw [← z]; exact hb))]; exact S'.rnt b hb vs⟩, T.pre, fun b u h => fz b u (T.frz b u (T0.frz b u h)), fun b hb => ?_, fun b ob' w h => ?_⟩, fz⟩
  · show m < s'.nxt
    rcases gn m o e with ⟨rfl, _⟩ | ⟨_, e⟩
    · exact S'.lt m _ hn'
    · exact S'.lt m o e
  · rcases gn m o e1 with ⟨z1, _⟩ | ⟨_, e3⟩
    · rcases gn k v e2 with ⟨z2, _⟩ | ⟨_, e4⟩
      · rw [z1, z2]
      · rw [z1] at f1 ⊢
        exact S'.inj n k b _ _ hn' e4 f1 f2
    · rcases gn k v e2 with ⟨z2, _⟩ | ⟨_, e4⟩
      · rw [z2] at f2 ⊢
        exact S'.inj m n b _ _ e3 hn' f1 f2
      · exact S'.inj m k b _ _ e3 e4 f1 f2
  · rcases gn m o' e with ⟨rfl, rfl⟩ | ⟨nm, e⟩
    · obtain ⟨b, h1, _, o2, h3, h4⟩ := S'.obj m _ hn'
      rw [ha'] at h1
      cases h1
      rw [if_pos rfl] at h3
      obtain ⟨ob2, h3⟩ := h3
      rw [e1] at h3
      cases h3
      exact ⟨a, ha', aR, o, by rw [if_neg (by decide)]; exact upd_same, h4.mono fz fun _ _ h => h⟩
    · obtain ⟨b, h1, h2, h3⟩ := S'.obj m o' e
      refine ⟨b, h1, h2, h3.mono fz (fun _ _ h => h) (upd_ne ?_)⟩
      rintro rfl
      exact nm (S'.inj m n _ _ _ e hn' h1 ha')
  · by_cases e : b = a
    · exact (aR (by rw [← e]; exact hb)).elim
    · rw [upd_ne e]; exact S'.res b hb
  · have nb : b ≠ a := fun z => aR (by rw [← z]; exact hb)
    rw [upd_ne nb, T.res b hb, upd_ne nb]
  · have nb : b ≠ a := fun z => by rw [z, ho] at h; cases h; exact pl.elim
    rw [upd_ne nb]
    exact T.lkd b ob' w ((upd_ne nb).trans h)
/-- a list is made, live or frozen -/
theorem mkL_ok (S : Sim G R s ι H) {m : Bool} {ws : List W} {w : W} {s' : Sto} (h : mkL m ws s = some (w, s')) :
    ws.length ≤ sizeLine ∧ ∀ p vs, H p = none → DenL G (FzH G R s ι H) ι ws vs → ∃ ι', Step G R s ι H s' ι' (upd H p (.lst vs)) ∧ Den G (FzH G R s' ι' (upd H p (.lst vs))) ι' w (.ref p) := by
  unfold mkL at h
  split at h
  · rename_i hl
    refine ⟨hl, fun p vs hp d => ?_⟩
    split at h
    · cases h
      obtain ⟨T, e⟩ := Step.new S hp (ho := .lst vs) (so := .lst ws) fun F' hF => ⟨vs, upd_same, d.mono hF fun _ _ h => get_app h⟩
      exact ⟨_, T, e _⟩
    · cases h
      obtain ⟨T, e⟩ := new_lst S hp d
      exact ⟨_, T, e⟩
  · cases h
end
end Mn

end

section
set_option Elab.async false
set_option linter.all false
set_option maxRecDepth 100000
set_option maxHeartbeats 2000000
/-! Mini: rules of expressions. -/
namespace Mn
open PySem PySem.Spec PyProof.Rows L2
section
variable {G : Gx} {R : List Addr} {s : Sto} {ι : List Addr} {H : Hp} {F : Fz}
theorem DenL.drop : ∀ (n : Nat) {ws : List W} {vs : List V}, DenL G F ι ws vs → DenL G F ι (ws.drop n) (vs.drop n)
  | 0, ws, vs, d => d
  | n + 1, [], vs, d => by simp only [DenL] at d; subst d; exact DenL.nil
  | n + 1, w :: ws, vs, d => by
    simp only [DenL] at d
    obtain ⟨v, r, rfl, _, d⟩ := d
    exact DenL.drop n d
theorem DenL.take : ∀ (n : Nat) {ws : List W} {vs : List V}, DenL G F ι ws vs → DenL G F ι (ws.take n) (vs.take n)
  | 0, ws, vs, d => by simp only [List.take_zero]; exact DenL.nil
  | n + 1, [], vs, d => by simp only [DenL] at d; subst d; exact DenL.nil
  | n + 1, w :: ws, vs, d => by
    simp only [DenL] at d
    obtain ⟨v, r, rfl, d1, d⟩ := d
    exact DenL.cons d1 (DenL.take n d)
theorem DenL.get : ∀ {ws : List W} {vs : List V} {i : Nat} {w : W}, DenL G F ι ws vs → ws[i]? = some w → ∃ v, vs[i]? = some v ∧ Den G F ι w v
  | [], vs, i, w, d, h => by simp at h
  | x :: ws, vs, 0, w, d, h => by
    simp only [DenL] at d
    obtain ⟨v, r, rfl, d1, d⟩ := d
    simp at h
    subst h
    exact ⟨v, rfl, d1⟩
  | x :: ws, vs, i + 1, w, d, h => by
    simp only [DenL] at d
    obtain ⟨v, r, rfl, d1, d⟩ := d
    simpa using DenL.get (i := i) d (by simpa using h)
theorem DenL.at {ws : List W} {vs : List V} {i : Int} {w : W} (d : DenL G F ι ws vs) (h : atI ws i = some w) : ∃ v, atI vs i = some v ∧ Den G F ι w v := by
  unfold atI at h ⊢
  rw [← d.length]
  cases e : ixN ws.length i with
  | none => rw [e] at h; cases h
  | some j =>
    rw [e] at h
    exact d.get h
theorem DenL.cut {ws : List W} {vs : List V} (lo hi : Option Int) (d : DenL G F ι ws vs) : DenL G F ι (cutL ws lo hi) (cutV vs lo hi) := by
  unfold cutL cutV
  rw [← d.length]
  exact (d.drop _).take _
end
section
variable {X : Cx} {G : Gx} {Wx : WX} {a b c : PySem.Expr} {ra rb rc : Env → M W} {pos : Pos} {rest es : List PySem.Expr}
/-- a subscript -/
theorem ix_W {k0 : Nat} (hK : X.K = G.K) (hr : L2.Room k0 X.A) : IxR X (r2 G idxW) := by
  intro value slice pins st σ H x y v u Q I rx ry h hs
  obtain ⟨R, s, ι, a, b, w, s', S, da, db, e, K⟩ := h
  have un := hr.un
  unfold idxW at e
  split at e
  · rename_i kvs ed
    unfold Op1.of at e
    split at e
    · rename_i z eb
      cases e
      simp only [Option.bind_eq_some_iff] at eb
      obtain ⟨ky, hk, eb⟩ := eb
      split at eb
      · rename_i ok
        obtain ⟨p, o, rfl, ⟨rd, r0⟩, dd⟩ := dct_den S da ed
        obtain rfl : v = Value.ref p := rx
        rcases get_den rd dd hk ok db with ⟨r, g, od⟩ | ⟨e0, _⟩
        · rw [eb] at od
          cases r with
          | none => exact od.elim
          | some v' =>
            exact tail_any (dict_typeIs I g) PySem.F.slot_dict_getitem.lookup (d_getItem (by omega) I g ry fun w' st' I' rw' => ⟨v', H, I', rw', K ι H v' (Step.refl S) od⟩) hs
        · subst e0
          cases eb
      · cases eb
    · cases e
  · split at e
    · split at e
      · rename_i hl
        unfold Op1.of at e
        split at e
        · rename_i z eb
          cases e
          simp only [Option.map_eq_some_iff] at eb
          obtain ⟨c, eb, rfl⟩ := eb
          rw [of_str da] at rx
          rw [of_int db] at ry
          refine ix_str value slice pins st σ H _ _ v u Q I rx ry ⟨_, _, c, rfl, rfl, by simpa [Str.length] using hl, by simpa using eb, ?_⟩ hs
          exact K ι H _ (Step.refl S) (by simp only [Den])
        · cases e
      · cases e
    · unfold Op1.of at e
      split at e
      · rename_i z eb
        cases e
        simp only [Option.bind_eq_some_iff] at eb
        obtain ⟨xs, e1, eb⟩ := eb
        rw [of_int db] at ry
        cases a with
        | tup zs =>
          have e1' : zs = xs := Option.some.inj e1
          rw [e1'] at da
          simp only [Den] at da
          obtain ⟨p, vs, rfl, f, d⟩ := da
          obtain ⟨v', e2, d'⟩ := d.at eb
          exact ix_tup value slice pins st σ H _ _ v u Q I rx ry ⟨p, vs, _, v', rfl, rfl, SqT.of f.2, e2, K ι H v' (Step.refl S) d'⟩ hs
        | ctp zs =>
          have e1' : zs = xs := Option.some.inj e1
          rw [e1'] at da
          simp only [Den] at da
          obtain ⟨p, ob, vs, rfl, f, d⟩ := da
          obtain ⟨v', e2, d'⟩ := d.at eb
          exact ix_tup value slice pins st σ H _ _ v u Q I rx ry ⟨p, vs, _, v', rfl, rfl, .inl (.inr ⟨_, f.2⟩), e2, K ι H v' (Step.refl S) d'⟩ hs
        | _ =>
          obtain ⟨p, vs, rfl, f, d⟩ := lst_den S da (xs := xs) e1
          obtain ⟨v', e2, d'⟩ := d.at eb
          exact ix_list value slice pins st σ H _ _ v u Q I rx ry ⟨p, vs, _, v', rfl, rfl, .inl f, e2, K ι H v' (Step.refl S) d'⟩ hs
      · cases e
    · cases e
theorem pe_ixW {k0 : Nat} (hK : X.K = G.K) (hr : L2.Room k0 X.A) (ha : PE X a (tE G Wx ra)) (hb : PE X b (tE G Wx rb)) (hs : PlainIx b) :
    PE X (.Subscript a b pos) (tE G Wx fun ρ => M.bind (ra ρ) fun x => M.bind (rb ρ) fun y => M.op (idxW x y)) :=
  PE.imp (pe_ix (ix_W hK hr) ha hb hs) fun _ _ _ h => bin_imp h
/-- a slice's end -/
def tO (G : Gx) (Wx : WX) (r : Env → M (Option Int)) : TO := fun σ H Q => ∃ R s ι ρ, Sim G R s ι H ∧ EnvD G R s ι H ρ σ ∧ Post G Wx σ R s ι H (r ρ s) fun o s' ι' H' => Q o H'
theorem PO.imp {e : Option PySem.Expr} {t t' : TO} (h : PO X e t) (hi : ∀ σ H Q, t' σ H Q → t σ H Q) : PO X e t' := ⟨fun pins s σ H Q I q => h.run pins s σ H Q I (hi σ H Q q)⟩
theorem po_noW : PO X none (tO G Wx fun _ => M.ret none) := PO.imp po_none fun σ H Q ⟨R, s, ι, ρ, S, D, P⟩ => P.ret S
theorem po_soW (ha : PE X a (tE G Wx ra)) : PO X (some a) (tO G Wx fun ρ => M.bind (ra ρ) fun x => match x with
    | .int i => M.ret (some i)
    | _ => M.no) := by
  refine PO.imp (po_some ha) fun σ H Q h => ?_
  obtain ⟨R, s, ι, ρ, S, D, P⟩ := h
  refine ⟨R, s, ι, ρ, S, D, P.bind.mono fun x s1 ι1 H1 T1 P1 v1 d1 => ?_⟩
  split at P1
  · exact ⟨_, of_int d1, P1.ret T1.sim⟩
  · exact P1.elim
def r3 (G : Gx) : V → Option Int → Option Int → Hp → VK → Prop := fun x lo hi H Q => ∃ R s ι a w s', Sim G R s ι H ∧ Den G (FzH G R s ι H) ι a x ∧ slcW a lo hi s = some (w, s') ∧ ∀ ι' H' v, Step G R s ι H s' ι' H' → Den G (FzH G R s' ι' H') ι' w v → Q v H'
theorem sl_W (hK : X.K = G.K) : SlR X (r3 G) := by
  intro pins st σ H x v vl vu lo hi sl Q I rx hs pl pu h
  obtain ⟨R, s, ι, a, w, s', S, da, e, K⟩ := h
  unfold slcW at e
  split at e
  · split at e
    · rename_i hl
      cases e
      rw [of_str da] at rx
      refine sl_str pins st σ H _ v vl vu lo hi sl Q I rx hs pl pu ⟨_, rfl, by simpa [Str.length] using hl, ?_⟩
      refine K ι H _ (Step.refl S) ?_
      simp only [Den, cutS, cutL, Str.length, List.size_toArray]
    · cases e
  · rename_i xs
    cases e
    simp only [Den] at da
    obtain ⟨p, vs, rfl, f, d⟩ := da
    refine sl_tupA pins st σ H _ v vl vu lo hi sl Q I rx hs pl pu ⟨p, vs, rfl, SqT.of f.2, fun hw => ?_, fun _ q hq => ?_⟩
    · refine K ι H _ (Step.refl S) ?_
      have e : cutL xs lo hi = xs := by
        unfold cutL
        rw [d.length, hw.1, hw.2]
        simp [← d.length]
      rw [e]
      simp only [Den]
      exact ⟨p, vs, rfl, f, d⟩
    · obtain ⟨T, e⟩ := new_tup S hq (d.cut lo hi)
      exact K ι _ _ T e
  · split at e
    · rename_i xs e1
      cases e
      obtain ⟨p, vs, rfl, f, d⟩ := lst_den S da e1
      refine sl_list pins st σ H _ v vl vu lo hi sl Q I rx hs pl pu ⟨p, vs, rfl, .inl f, fun q hq => ?_⟩
      obtain ⟨T, e⟩ := new_lst S hq (d.cut lo hi)
      exact K ι _ _ T e
    · cases e
theorem pe_slcW {lo hi : Option PySem.Expr} {rl rh : Env → M (Option Int)} {p2 : Pos} (hK : X.K = G.K) (ha : PE X a (tE G Wx ra)) (hl : PO X lo (tO G Wx rl)) (hh : PO X hi (tO G Wx rh)) :
    PE X (.Subscript a (.Slice lo hi none p2) pos) (tE G Wx fun ρ => M.bind (ra ρ) fun x => M.bind (rl ρ) fun l => M.bind (rh ρ) fun h => M.op (slcW x l h)) := by
  refine PE.imp (pe_slice (sl_W hK) ha hl hh) fun σ H Q h => ?_
  obtain ⟨R, s, ι, ρ, S, D, P⟩ := h
  refine ⟨R, s, ι, ρ, S, D, P.bind.mono fun x s1 ι1 H1 T1 P1 v1 d1 => ?_⟩
  refine ⟨R, s1, ι1, ρ, T1.sim, D.step T1, P1.bind.mono fun l s2 ι2 H2 T2 P2 => ?_⟩
  refine ⟨R, s2, ι2, ρ, T2.sim, (D.step T1).step T2, P2.bind.mono fun r s3 ι3 H3 T3 P3 => ?_⟩
  obtain ⟨w, s4, e, K⟩ := P3.op
  exact ⟨R, s3, ι3, x, w, s4, T3.sim, T3.den (T2.den d1), e, fun ι' H' v T d => K ι' H' T v d⟩
/-! ### arguments, displays -/
theorem pa_nilW : PA X [] (tA G Wx fun _ => M.ret []) := PA.imp pa_nil fun σ H Q ⟨R, s, ι, ρ, S, D, P⟩ => P.ret S [] DenL.nil
theorem pa_consW {ras : Env → M (List W)} (ha : PE X a (tE G Wx ra)) (hr : PA X es (tA G Wx ras)) (hs : starEach (a :: es) X.env = (false, eval a X.env) :: starEach es X.env) :
    PA X (a :: es) (tA G Wx fun ρ => M.bind (ra ρ) fun x => M.bind (ras ρ) fun xs => M.ret (x :: xs)) := by
  refine PA.imp (pa_cons ha hr hs) fun σ H Q h => ?_
  obtain ⟨R, s, ι, ρ, S, D, P⟩ := h
  refine ⟨R, s, ι, ρ, S, D, P.bind.mono fun x s1 ι1 H1 T1 P1 v1 d1 => ?_⟩
  refine ⟨R, s1, ι1, ρ, T1.sim, D.step T1, P1.bind.mono fun xs s2 ι2 H2 T2 P2 vs d2 => ?_⟩
  exact P2.ret T2.sim _ (DenL.cons (T2.den d1) d2)
theorem pe_tupW {ras : Env → M (List W)} {k : Nat} (h : PA X es (tA G Wx ras)) : PE X (.Tuple es k pos) (tE G Wx fun ρ => M.bind (ras ρ) fun xs => if xs.length ≤ line then M.ret (.tup xs) else M.no) := by
  refine PE.imp (pe_tup h) fun σ H Q h => ?_
  obtain ⟨R, s, ι, ρ, S, D, P⟩ := h
  refine ⟨R, s, ι, ρ, S, D, P.bind.mono fun xs s1 ι1 H1 T1 P1 vs d1 => ?_⟩
  split at P1
  · rename_i hl
    refine ⟨by rw [← d1.length]; exact hl, fun p hp => ?_⟩
    obtain ⟨T, e⟩ := new_tup T1.sim hp d1
    exact P1.ok (s' := s1) rfl T _ e
  · exact P1.elim
theorem pe_lstW {ras : Env → M (List W)} {m : Bool} (h : PA X es (tA G Wx ras)) : PE X (.List es pos) (tE G Wx fun ρ => M.bind (ras ρ) fun xs => M.op (mkL m xs)) := by
  refine PE.imp (pe_lst h) fun σ H Q h => ?_
  obtain ⟨R, s, ι, ρ, S, D, P⟩ := h
  refine ⟨R, s, ι, ρ, S, D, P.bind.mono fun xs s1 ι1 H1 T1 P1 vs d1 => ?_⟩
  obtain ⟨w, s2, e, K⟩ := P1.op
  obtain ⟨hl, mk⟩ := mkL_ok T1.sim e
  refine ⟨by rw [← d1.length]; exact hl, fun p hp => ?_⟩
  obtain ⟨ι', T, d⟩ := mk p vs hp d1
  exact K ι' _ T _ d
theorem pe_dct0W : PE X (.Dict [] [] pos) (tE G Wx fun _ => M.op (alloc (.dct false []))) := by
  refine PE.imp pe_dnewK fun σ H Q h => ?_
  obtain ⟨R, s, ι, ρ, S, D, P⟩ := h
  intro p hp
  obtain ⟨w, s2, e, K⟩ := P.op
  cases e
  obtain ⟨T, d⟩ := Step.new S hp (ho := .dK []) (so := .dct false []) fun F' hF => ⟨.dK [], upd_same, by simp [DenD]⟩
  exact K _ _ T _ (d _)
/-! ### and, or, not, if, chains, is None, minus -/
theorem Post.tru {σ : L2.St} {R : List Addr} {s : Sto} {ι : List Addr} {H : Hp} {w : W} {K : Bool → Sto → List Addr → Hp → Prop} (S : Sim G R s ι H) (h : Post G Wx σ R s ι H (M.tru w s) K) : ∃ k, truW s w = some k ∧ K k s ι H := by
  obtain ⟨k, s', e, K'⟩ := h.op
  obtain ⟨e, rfl⟩ := truM_some e
  exact ⟨k, e, K' ι H (Step.refl S)⟩
theorem pe_andW (hK : X.K = G.K) (ha : PE X a (tE G Wx ra)) (hb : PE X (.BoolOp .And (b :: rest) pos) (tE G Wx rb)) :
    PE X (.BoolOp .And (a :: b :: rest) pos) (tE G Wx fun ρ => M.bind (ra ρ) fun x => M.bind (M.tru x) fun t => if t then rb ρ else M.ret x) := by
  refine PE.imp (pe_andT ha hb) fun σ H Q h => ?_
  obtain ⟨R, s, ι, ρ, S, D, P⟩ := h
  refine ⟨R, s, ι, ρ, S, D, P.bind.mono fun x s1 ι1 H1 T1 P1 v1 d1 => ?_⟩
  obtain ⟨k, e, P2⟩ := P1.bind.tru T1.sim
  refine ⟨k, by rw [hK]; exact tru_den T1.sim d1 e, ?_⟩
  cases k with
  | true => exact ⟨R, s1, ι1, ρ, T1.sim, D.step T1, P2⟩
  | false => exact P2.ret T1.sim _ d1
theorem pe_orW (hK : X.K = G.K) (ha : PE X a (tE G Wx ra)) (hb : PE X (.BoolOp .Or (b :: rest) pos) (tE G Wx rb)) :
    PE X (.BoolOp .Or (a :: b :: rest) pos) (tE G Wx fun ρ => M.bind (ra ρ) fun x => M.bind (M.tru x) fun t => if t then M.ret x else rb ρ) := by
  refine PE.imp (pe_orT ha hb) fun σ H Q h => ?_
  obtain ⟨R, s, ι, ρ, S, D, P⟩ := h
  refine ⟨R, s, ι, ρ, S, D, P.bind.mono fun x s1 ι1 H1 T1 P1 v1 d1 => ?_⟩
  obtain ⟨k, e, P2⟩ := P1.bind.tru T1.sim
  refine ⟨k, by rw [hK]; exact tru_den T1.sim d1 e, ?_⟩
  cases k with
  | true => exact P2.ret T1.sim _ d1
  | false => exact ⟨R, s1, ι1, ρ, T1.sim, D.step T1, P2⟩
theorem pe_notW (hK : X.K = G.K) (ha : PE X a (tE G Wx ra)) : PE X (.UnaryOp .Not a pos) (tE G Wx fun ρ => M.bind (ra ρ) fun x => M.bind (M.tru x) fun t => M.ret (.bl (!t))) := by
  refine PE.imp (pe_notT ha) fun σ H Q h => ?_
  obtain ⟨R, s, ι, ρ, S, D, P⟩ := h
  refine ⟨R, s, ι, ρ, S, D, P.bind.mono fun x s1 ι1 H1 T1 P1 v1 d1 => ?_⟩
  obtain ⟨k, e, P2⟩ := P1.bind.tru T1.sim
  exact ⟨k, by rw [hK]; exact tru_den T1.sim d1 e, P2.ret T1.sim _ den_bl⟩
theorem pe_iteW (hc : PT X c (tT G Wx fun ρ => M.bind (rc ρ) M.tru)) (ha : PE X a (tE G Wx ra)) (hb : PE X b (tE G Wx rb)) :
    PE X (.IfExp c a b pos) (tE G Wx fun ρ => M.bind (rc ρ) fun x => M.bind (M.tru x) fun t => if t then ra ρ else rb ρ) := by
  refine PE.imp (pe_ifExp hc ha hb) fun σ H Q h => ?_
  obtain ⟨R, s, ι, ρ, S, D, P⟩ := h
  refine ⟨R, s, ι, ρ, S, D, ?_⟩
  have e : ∀ s, M.bind (rc ρ) (fun x => M.bind (M.tru x) fun t => if t then ra ρ else rb ρ) s = M.bind (M.bind (rc ρ) M.tru) (fun t => if t then ra ρ else rb ρ) s := fun s => by
    unfold M.bind
    cases rc ρ s with
    | none => rfl
    | some p => obtain ⟨q, s'⟩ := p; cases q <;> rfl
  have P' : Post G Wx σ R s ι H (M.bind (M.bind (rc ρ) M.tru) (fun t => if t then ra ρ else rb ρ) s) fun w s' ι' H' => ∀ v, Den G (FzH G R s' ι' H') ι' w v → Q v H' := by
    rw [← e]
    exact P
  refine P'.bind.mono fun k s1 ι1 H1 T1 P1 => ?_
  cases k with
  | true => exact ⟨R, s1, ι1, ρ, T1.sim, D.step T1, P1⟩
  | false => exact ⟨R, s1, ι1, ρ, T1.sim, D.step T1, P1⟩
theorem pe_negW (ha : PE X a (tE G Wx ra)) : PE X (.UnaryOp .USub a pos) (tE G Wx fun ρ => M.bind (ra ρ) fun x => match x with
    | .int i => M.ret (.int (-i))
    | _ => M.no) := by
  refine PE.imp (pe_un un_neg ha) fun σ H Q h => ?_
  obtain ⟨R, s, ι, ρ, S, D, P⟩ := h
  refine ⟨R, s, ι, ρ, S, D, P.bind.mono fun x s1 ι1 H1 T1 P1 v1 d1 => ?_⟩
  split at P1
  · exact ⟨_, of_int d1, P1.ret T1.sim _ den_int⟩
  · exact P1.elim
theorem isN_den {F : Fz} {ι : List Addr} {w : W} {v : V} (d : Den G F ι w v) : decide (v = .non) = isNonW w := by
  cases w with
  | non => rw [of_non d]; rfl
  | bl b => rw [of_bl d]; rfl
  | int i => rw [of_int d]; rfl
  | str t => rw [of_str d]; rfl
  | tup xs => simp only [Den] at d; obtain ⟨a, vs, rfl, _⟩ := d; rfl
  | lst xs => simp only [Den] at d; obtain ⟨a, vs, rfl, _⟩ := d; rfl
  | dct xs => simp only [Den] at d; obtain ⟨a, vs, rfl, _⟩ := d; rfl
  | obj c xs => simp only [Den] at d; obtain ⟨a, _, vs, rfl, _⟩ := d; rfl
  | ref n => simp only [Den] at d; obtain ⟨a, _, rfl⟩ := d; rfl
  | ctp xs => simp only [Den] at d; obtain ⟨a, _, vs, rfl, _⟩ := d; rfl
theorem pe_isNW {t : Bool} {j : Nat} {pos' : Pos} (ha : PE X a (tE G Wx ra)) : PE X (.Compare a [if t then .Is else .IsNot] [.Constant .none j pos'] pos) (tE G Wx fun ρ => M.bind (ra ρ) fun x => M.ret (.bl (if isNonW x then t else !t))) := by
  cases t with
  | true =>
    refine PE.imp (pe_cmp (pc_isN ha) (nomark _ (by decide) (by decide))) fun σ H Q h => ?_
    obtain ⟨R, s, ι, ρ, S, D, P⟩ := h
    refine ⟨R, s, ι, ρ, S, D, P.bind.mono fun x s1 ι1 H1 T1 P1 v1 d1 => ?_⟩
    have e := congrArg V.bl (isN_den d1)
    refine Eq.mpr (congrArg (fun z => Q z H1) e) ?_
    have := P1.ret T1.sim _ den_bl
    cases x <;> exact this
  | false =>
    refine PE.imp (pe_cmp (pc_notN ha) (nomark _ (by decide) (by decide))) fun σ H Q h => ?_
    obtain ⟨R, s, ι, ρ, S, D, P⟩ := h
    refine ⟨R, s, ι, ρ, S, D, P.bind.mono fun x s1 ι1 H1 T1 P1 v1 d1 => ?_⟩
    have e := congrArg (fun k => V.bl (!k)) (isN_den d1)
    refine Eq.mpr (congrArg (fun z => Q z H1) e) ?_
    have := P1.ret T1.sim _ den_bl
    cases x <;> exact this
theorem chain_imp {o p : C2} {σ : L2.St} {H : Hp} {Q : VK} (h : tE G Wx (fun ρ => M.bind (ra ρ) fun x => M.bind (rb ρ) fun y => M.bind (M.op (c2W o x y)) fun z => match z with
    | .bl true => M.bind (rc ρ) fun u => M.op (c2W p y u)
    | .bl false => M.ret (.bl false)
    | _ => M.no) σ H Q) : tChain (r2 G (c2W o)) (r2 G (c2W p)) (tE G Wx ra) (tE G Wx rb) (tE G Wx rc) σ H Q := by
  obtain ⟨R, s, ι, ρ, S, D, P⟩ := h
  refine ⟨R, s, ι, ρ, S, D, P.bind.mono fun x s1 ι1 H1 T1 P1 v1 d1 => ?_⟩
  refine ⟨R, s1, ι1, ρ, T1.sim, D.step T1, P1.bind.mono fun y s2 ι2 H2 T2 P2 v2 d2 => ?_⟩
  obtain ⟨w, s3, e, K⟩ := P2.bind.op
  obtain ⟨k, e2, rfl, rfl⟩ := c2W_some e
  refine ⟨R, s3, ι2, x, y, .bl k, s3, T2.sim, T2.den d1, d2, e, fun ι' H' v T d => ⟨k, of_bl d, ?_⟩⟩
  have P3 := K ι' H' T
  cases k with
  | true =>
    refine ⟨R, s3, ι', ρ, T.sim, ((D.step T1).step T2).step T, P3.bind.mono fun u s4 ι4 H4 T4 P4 v4 d4 => ?_⟩
    obtain ⟨w', s5, e5, K5⟩ := P4.op
    exact ⟨R, s4, ι4, y, u, w', s5, T4.sim, T4.den (T.den d2), d4, e5, fun ι' H' v T d => K5 ι' H' T v d⟩
  | false => exact P3.ret T.sim _ den_bl
theorem pe_chnW {k0 : Nat} (hK : X.K = G.K) (hr : L2.Room k0 X.A) (o p : C2) (ha : PE X a (tE G Wx ra)) (hb : PE X b (tE G Wx rb)) (hc : PE X c (tE G Wx rc)) (hm : lastMarks [c2o o, c2o p] [b, c] = false) :
    PE X (.Compare a [c2o o, c2o p] [b, c] pos) (tE G Wx fun ρ => M.bind (ra ρ) fun x => M.bind (rb ρ) fun y => M.bind (M.op (c2W o x y)) fun z => match z with
    | .bl true => M.bind (rc ρ) fun u => M.op (c2W p y u)
    | .bl false => M.ret (.bl false)
    | _ => M.no) := PE.imp (pe_chain (op_c2 hK hr o) (op_c2 hK hr p) ha hb hc hm) fun _ _ _ h => chain_imp h
end
end Mn

end

section
set_option Elab.async false
set_option linter.all false
set_option maxRecDepth 100000
set_option maxHeartbeats 2000000
/-! Mini: fields, calls of own defs, instances, methods. -/
namespace Mn
open PySem PySem.Spec PyProof.Rows L2
/-! ### what is asked of the syntax -/
def plainX : PySem.Expr → Bool
  | .Starred _ _ => false
  | _ => true
def baseX : PySem.Expr → Bool
  | .Call (.Name id _) [] [] _ => id != ("super" : Str)
  | _ => true
theorem starEach_plain {e : PySem.Expr} {es : List PySem.Expr} {env : PySem.Env} (h : plainX e = true) : starEach (e :: es) env = (false, eval e env) :: starEach es env := by
  cases e <;> first | rfl | (simp [plainX] at h; done)
theorem starEach_all {env : PySem.Env} : ∀ {es : List PySem.Expr}, es.all plainX = true → (starEach es env).any (·.1) = false
  | [], _ => rfl
  | e :: es, h => by
    have h1 : plainX e = true ∧ es.all plainX = true := by simpa using h
    rw [starEach_plain h1.1, List.any_cons, starEach_all h1.2]
    rfl
theorem backTo_any {pos : Pos} (l : List (Bool × Sem Value)) : (backTo pos l).any (·.1) = l.any (·.1) := by
  unfold backTo
  rw [List.any_map]
  rfl
theorem base_ok {o : PySem.Expr} {m : Str} {env : PySem.Env} {whole : Sem Value} (h : baseX o = true) : attributeBase o m env whole = whole := by
  unfold attributeBase
  split
  · rename_i id _ _
    have e : (id != ("super" : Str)) = true := h
    rw [e]
    rfl
  · rfl
theorem meth_eval {o : PySem.Expr} {m : Str} {apos pos : Pos} {es : List PySem.Expr} {env : PySem.Env} (hb : baseX o = true) (hl : (apos.endLine == pos.line) = true) (hp : es.all plainX = true) (hn : es.length < 29) :
    eval (.Call (.Attribute o m apos) es [] pos) env = (do
      let ov ← eval o env
      standAt apos.atName
      let (f, first) ← holding [ov] (getMethod ov m (plainOf o env))
      callWith pos f first (backTo pos (starEach es env)) (backToKw pos (keywordEach [] env))) := by
  have hf : methodCallForm (es.length + 0) (backTo pos (starEach es env)) (backToKw pos (keywordEach [] env)) = true := by
    unfold methodCallForm
    have h1 : (backTo pos (starEach es env)).all (fun x => !x.1) = true := by
      have h2 : (backTo pos (starEach es env)).any (·.1) = false := by rw [backTo_any]; exact starEach_all hp
      rw [List.any_eq_false] at h2
      rw [List.all_eq_true]
      intro x hx
      have := h2 x hx
      simpa using this
    rw [h1]
    show (true && true && decide (es.length + 0 + 0 < 30)) = true
    simp
    omega
  show (do
    let ov ← attributeBase o m env (eval o env)
    standAt apos.atName
    methodCall o m apos pos env ov (es.length + 0) (backTo pos (starEach es env)) (backToKw pos (keywordEach [] env))) = _
  rw [base_ok hb]
  congr 1
  funext ov
  congr 1
  funext _
  exact mcall_line hf hl
/-! ### fields -/
/-- the text's own facts -/
structure Txt (K : PySem.W.Frag) (G : Gx) (pg : Pg) : Prop where
  nat : ∀ c f, pg.nat c f = true → Cls K (G.cad c) ∧ NoAttr K (G.cad c) (G.fnm f)
  inj : ∀ f g, G.fnm f = G.fnm g → f = g
section
variable {X : Cx} {G : Gx} {pg : Pg} {R : List Addr} {s : Sto} {ι : List Addr} {H : Hp} {F : Fz}
theorem getF_den (inj : ∀ f g, G.fnm f = G.fnm g → f = g) (f : Nat) : ∀ {fs : List (Nat × W)} {q : List (Str × V)}, DenF G F ι fs q → OptD G F ι (getF f fs) (q.lookup (G.fnm f))
  | [], q, h => by simp only [DenF] at h; subst h; exact trivial
  | (g, x) :: r, q, h => by
    simp only [DenF] at h
    obtain ⟨v, z, rfl, d, h⟩ := h
    by_cases e : g = f
    · subst e
      simpa [getF, OptD] using d
    · have n : ¬ G.fnm f = G.fnm g := fun z => e (inj _ _ z).symm
      have n2 : (G.fnm f == G.fnm g) = false := beq_eq_false_iff_ne.mpr n
      rw [List.lookup_cons, n2]
      simpa [getF, e] using getF_den inj f h
theorem putF_den (inj : ∀ f g, G.fnm f = G.fnm g → f = g) (f : Nat) {w : W} {v : V} (d : Den G F ι w v) : ∀ {fs : List (Nat × W)} {q : List (Str × V)}, DenF G F ι fs q → DenF G F ι (putF f w fs) (L2.putF (G.fnm f) v q)
  | [], q, h => by
    simp only [DenF] at h
    subst h
    simp only [putF, L2.putF, DenF]
    exact ⟨v, [], rfl, d, rfl⟩
  | (g, x) :: r, q, h => by
    simp only [DenF] at h
    obtain ⟨u, z, rfl, e, h⟩ := h
    by_cases q : g = f
    · subst q
      simp only [putF, L2.putF, if_true, DenF]
      exact ⟨_, _, rfl, d, h⟩
    · have n : ¬ G.fnm g = G.fnm f := fun z => q (inj _ _ z)
      simp only [putF, L2.putF, if_neg q, if_neg n, DenF]
      exact ⟨_, _, rfl, e, putF_den inj f d h⟩
theorem DenF.length : ∀ {fs : List (Nat × W)} {q : List (Str × V)}, DenF G F ι fs q → q.length = fs.length
  | [], q, h => by simp only [DenF] at h; subst h; rfl
  | (g, x) :: r, q, h => by
    simp only [DenF] at h
    obtain ⟨u, z, rfl, e, h⟩ := h
    simp [DenF.length h]
theorem ins_den (S : Sim G R s ι H) {w : W} {v : V} (d : Den G (FzH G R s ι H) ι w v) {c : Nat} {fs : List (Nat × W)} (h : insOf s w = some (c, fs)) :
    ∃ a dx fvs, v = .ref a ∧ H a = some (.ins (G.cad c) dx fvs) ∧ DenF G (FzH G R s ι H) ι fs fvs := by
  cases w with
  | obj c' fs' =>
    cases h
    simp only [Den] at d
    obtain ⟨a, dx, fvs, rfl, f, d⟩ := d
    exact ⟨a, dx, fvs, rfl, f.2, d⟩
  | ref n =>
    simp only [insOf] at h
    simp only [Den] at d
    obtain ⟨a, e, rfl⟩ := d
    cases q : s.get n with
    | none => rw [q] at h; cases h
    | some o =>
      rw [q] at h
      cases o with
      | ins c' fs' =>
        cases h
        obtain ⟨b, h1, _, dx, fvs, h3, h4⟩ := S.obj n _ q
        rw [e] at h1
        cases h1
        exact ⟨a, dx, fvs, rfl, h3, h4⟩
      | _ => cases h
  | _ => cases h
variable {Wx : WX} {a o : PySem.Expr} {ra : Env → M W} {pos apos : Pos} {es : List PySem.Expr} {ras : Env → M (List W)}
theorem pe_fldW (hK : X.K = G.K) (T : Txt G.K G pg) {f : Nat} (hb : baseX a = true) (ha : PE X a (tE G Wx ra)) : PE X (.Attribute a (G.fnm f) pos) (tE G Wx fun ρ => M.bind (ra ρ) fun x => M.op (fldW pg x f)) := by
  refine PE.imp (pe_fld ha (base_ok hb)) fun σ H Q h => ?_
  obtain ⟨R, s, ι, ρ, S, D, P⟩ := h
  refine ⟨R, s, ι, ρ, S, D, P.bind.mono fun x s1 ι1 H1 T1 P1 v1 d1 => ?_⟩
  obtain ⟨w, s2, e, K⟩ := P1.op
  unfold fldW Op1.of at e
  split at e
  · rename_i w' eb
    cases e
    simp only [Option.bind_eq_some_iff] at eb
    obtain ⟨⟨c, fs⟩, e1, eb⟩ := eb
    split at eb
    · rename_i hn
      obtain ⟨p, dx, fvs, rfl, hp, df⟩ := ins_den T1.sim d1 e1
      obtain ⟨c1, c2⟩ := T.nat c f hn
      have od := getF_den T.inj f df
      rw [show getF f fs = some w from eb] at od
      cases q : fvs.lookup (G.fnm f) with
      | none => rw [q] at od; exact od.elim
      | some v =>
        rw [q] at od
        exact ⟨p, _, dx, fvs, v, rfl, hp, by rw [hK]; exact c1, by rw [hK]; exact c2, q, K _ _ (Step.refl T1.sim) v od⟩
    · cases eb
  · cases e
end
/-! ### defs -/
/-- what a def promises: it does as the small machine's -/
def spF (G : Gx) (f : F) (fid : Nat) (np : Nat) : Sp := fun vs H Q E => vs.length = np ∧ ∃ R s ι ws, Sim G R s ι H ∧ DenL G (FzH G R s ι H) ι ws vs ∧
  Post G (fun cls d _ H' => E cls d H') [] R s ι H (f fid ws none s) fun w s' ι' H' => ∀ v, Den G (FzH G R s' ι' H') ι' w v → Q v H'
/-- the defs: where they stand, their parameters -/
structure Defs where
  ok : Nat → Bool
  fad : Nat → Addr
  fdt : Nat → FuncData
  par : Nat → List Str
/-- f does at level k what the defs do -/
def Lev (P : Program) (w : World) (K : PySem.W.Frag) (mg : Str → Option Value) (base : Heap) (G : Gx) (D : Defs) (k : Nat) (f : F) : Prop :=
  ∀ fid, D.ok fid = true → FnOk P w K mg base (CX P w) k (D.fad fid) (D.fdt fid) (D.par fid) (spF G f fid (D.par fid).length)
theorem Lev.none {P : Program} {w : World} {K : PySem.W.Frag} {mg : Str → Option Value} {base : Heap} {G : Gx} {D : Defs} {k : Nat} : Lev P w K mg base G D k fun _ _ _ _ => none :=
  fun fid _ => ⟨fun vs H Q E h => h.1, fun A outer s H args us vs Q E _ _ _ _ h => by
    obtain ⟨_, _, _, _, _, _, _, z⟩ := h
    exact z.elim⟩
section
variable {X : Cx} {G : Gx} {pg : Pg} {Df : Defs} {Wx : WX} {k fid : Nat} {f : F} {x : Str} {p pos apos : Pos} {e o : PySem.Expr} {es : List PySem.Expr} {ra : Env → M W} {ras : Env → M (List W)}
/-- the wish of a callee, at the slots -/
theorem sp_of {σ : L2.St} {R : List Addr} {s : Sto} {ι : List Addr} {H : Hp} {ws : List W} {vs : List V} {Q : VK} {np : Nat} (S : Sim G R s ι H) (d : DenL G (FzH G R s ι H) ι ws vs) (hl : vs.length = np)
    (h : Post G Wx σ R s ι H (f fid ws none s) fun w s' ι' H' => ∀ v, Den G (FzH G R s' ι' H') ι' w v → Q v H') : spF G f fid np vs H Q (WE Wx σ) := by
  refine ⟨hl, R, s, ι, ws, S, d, ?_⟩
  unfold Post at h ⊢
  split at h
  · exact h
  · exact h
  · exact h
theorem args_ok {σ : L2.St} {H : Hp} {Q : VK} {np : Nat} (hn : es.length = np) (hlen : ∀ ρ s r s', ras ρ s = some (.ok r, s') → r.length = es.length)
    (h : tE G Wx (fun ρ => M.bind (ras ρ) fun xs => f fid xs none) σ H Q) : tA G Wx ras σ H fun vs H1 => spF G f fid np vs H1 Q (WE Wx σ) := by
  obtain ⟨R, s, ι, ρ, S, D, P⟩ := h
  refine ⟨R, s, ι, ρ, S, D, ?_⟩
  have P' := P.bind
  cases e : ras ρ s with
  | none => rw [e] at P'; exact P'
  | some q =>
    obtain ⟨q, s'⟩ := q
    rw [e] at P'
    cases q with
    | error _ => exact P'
    | ok xs =>
      intro ι' H' T vs d
      refine sp_of T.sim d ?_ (P' ι' H' T)
      rw [← d.length, hlen ρ s xs s' e, hn]
/-- f(e, ..) -/
theorem pe_callW (hlev : Lev X.prog X.w X.K X.mg X.base G Df k f) (hr : L2.Room k X.A) (tk : Takes X Wx) (hok : Df.ok fid = true) (hg : Gl X x) (hm : X.mg x = some (.ref (Df.fad fid))) (hk : PySem.W.keepIn X.K (.ref (Df.fad fid)) = true)
    (hb : Binds X.K (Df.fdt fid) (Df.par fid) []) (hes : (e :: es).all plainX = true) (hn : (e :: es).length = (Df.par fid).length) (hdb : (x == ("__debug__" : Str)) = false) (ha : PA X (e :: es) (tA G Wx ras))
    (hlen : ∀ ρ s r s', ras ρ s = some (.ok r, s') → r.length = (e :: es).length) :
    PE X (.Call (.Name x p) (e :: es) [] pos) (tE G Wx fun ρ => M.bind (ras ρ) fun xs => f fid xs none) := by
  refine ⟨fun pins st σ H Q I h => ?_⟩
  have hes' : plainX e = true ∧ es.all plainX = true := by simpa using hes
  refine wpAny_Call_Name_kw (ld_glob I hg hm ?_ hdb)
  refine PySem.W.callWith_K (h₀ := X.base) I.ok.mod.kin hk (thn (ha.run pos pins st σ H _ I (args_ok hn hlen h)) fun us s1 ⟨vs, H1, I1, r, q⟩ => ⟨I1.kIn, ?_⟩) (starEach_plain hes'.1) (by rw [backTo_any]; exact starEach_all hes'.2)
  exact run_fnS (E := fun σ => WE Wx σ) (hlev fid hok) hr hb (passAt tk σ) I1 r q
theorem pe_call0W (hlev : Lev X.prog X.w X.K X.mg X.base G Df k f) (hr : L2.Room k X.A) (tk : Takes X Wx) (hok : Df.ok fid = true) (hg : Gl X x) (hm : X.mg x = some (.ref (Df.fad fid))) (hk : PySem.W.keepIn X.K (.ref (Df.fad fid)) = true)
    (hb : Binds X.K (Df.fdt fid) (Df.par fid) []) (hn : (Df.par fid).length = 0) (hdb : (x == ("__debug__" : Str)) = false) :
    PE X (.Call (.Name x p) [] [] pos) (tE G Wx fun _ => f fid [] none) := by
  refine ⟨fun pins st σ H Q I h => ?_⟩
  obtain ⟨R, s, ι, ρ, S, D, P⟩ := h
  refine wpAny_Call_Name_kw (ld_glob I hg hm ?_ hdb)
  refine PySem.W.callWith_K0 I.kIn hk ?_
  exact run_fnS (us := []) (vs := []) (E := fun σ => WE Wx σ) (hlev fid hok) hr hb (passAt tk σ) I .nil (sp_of S DenL.nil (by rw [hn]; rfl) P)
theorem methOf_some {m g : Nat} {q : Option (Nat × List (Nat × W))} (h : methOf pg m q = some g) : ∃ c fs, q = some (c, fs) ∧ getF m fs = none ∧ pg.mth c m = some g := by
  cases q with
  | none => cases h
  | some p =>
    obtain ⟨c, fs⟩ := p
    unfold methOf at h
    cases e : getF m fs with
    | none => simp only [e] at h; exact ⟨c, fs, rfl, e, h⟩
    | some _ => simp only [e] at h; cases h
/-- what a class must have for its methods -/
structure MethT (K : PySem.W.Frag) (G : Gx) (pg : Pg) (Df : Defs) (m n : Nat) : Prop where
  ok : ∀ c g, pg.mth c m = some g → Df.ok g = true ∧ Cls K (G.cad c) ∧ Meth K (G.cad c) (G.fnm m) (Df.fad g) ∧ Binds K (Df.fdt g) (Df.par g) [] ∧ (Df.par g).length = n + 1
/-- the receiver's method -/
theorem meth_look (hK : X.K = G.K) (T : Txt G.K G pg) {m n : Nat} (hmt : MethT G.K G pg Df m n) {R : List Addr} {s : Sto} {ι : List Addr} {H : Hp} (S : Sim G R s ι H) {u : W} {x : V} (d : Den G (FzH G R s ι H) ι u x) {g : Nat} (h : methOf pg m (insOf s u) = some g) :
    ∃ a C dx fvs, x = .ref a ∧ H a = some (.ins C dx fvs) ∧ Cls X.K C ∧ Meth X.K C (G.fnm m) (Df.fad g) ∧ fvs.lookup (G.fnm m) = none ∧ Df.ok g = true ∧ Binds X.K (Df.fdt g) (Df.par g) [] ∧ (Df.par g).length = n + 1 := by
  obtain ⟨c, fs, ei, e1, e2⟩ := methOf_some h
  obtain ⟨a, dx, fvs, rfl, ea, df⟩ := ins_den S d ei
  obtain ⟨o1, o2, o3, o4, o5⟩ := hmt.ok c g e2
  have nl : fvs.lookup (G.fnm m) = none := by
    have od := getF_den T.inj m df
    rw [e1] at od
    cases q : fvs.lookup (G.fnm m) with
    | none => rfl
    | some v => rw [q] at od; exact od.elim
  rw [hK]
  exact ⟨a, _, dx, fvs, rfl, ea, o2, o3, nl, o1, o4, o5⟩
/-- o.m(e, ..) -/
theorem pe_methW (hK : X.K = G.K) (T : Txt G.K G pg) (hlev : Lev X.prog X.w X.K X.mg X.base G Df k f) (hr : L2.Room k X.A) (tk : Takes X Wx) {m : Nat} (hmt : MethT G.K G pg Df m (e :: es).length)
    (hbs : baseX o = true) (hes : (e :: es).all plainX = true) (hl : (apos.endLine == pos.line) = true) (hn : (e :: es).length < 29) (ho : PE X o (tE G Wx ra)) (ha : PA X (e :: es) (tA G Wx ras))
    (hlen : ∀ ρ s r s', ras ρ s = some (.ok r, s') → r.length = (e :: es).length) :
    PE X (.Call (.Attribute o (G.fnm m) apos) (e :: es) [] pos) (tE G Wx fun ρ => M.bind (ra ρ) fun u => M.bind (fun s => M.of (methOf pg m (insOf s u)) s) fun g => M.bind (ras ρ) fun xs => f g (u :: xs) none) := by
  refine ⟨fun pins st σ H Q I h => ?_⟩
  have hes' : plainX e = true ∧ es.all plainX = true := by simpa using hes
  obtain ⟨R, s, ι, ρ, S, D, P⟩ := h
  refine PySem.W.methodCall_KW (pl := plainOf o X.env) (thn (ho.run pins st σ H (fun v H1 => ∃ s1 ι1 u, Step G R s ι H s1 ι1 H1 ∧ Den G (FzH G R s1 ι1 H1) ι1 u v ∧ Post G Wx σ R s1 ι1 H1 (M.bind (fun s => M.of (methOf pg m (insOf s u)) s) (fun g => M.bind (ras ρ) fun xs => f g (u :: xs) none) s1) fun w s' ι' H' => ∀ v, Den G (FzH G R s' ι' H') ι' w v → Q v H') I
    ⟨R, s, ι, ρ, S, D, P.bind.mono fun u s1 ι1 H1 T1 P1 v d => ⟨s1, ι1, u, T1, d, P1⟩⟩) fun u s1 ⟨x, H1, I1, rx, s1', ι1, u', T1, d1, P1⟩ => ?_) (meth_eval hbs hl hes hn)
  obtain ⟨g, eg, P2⟩ := (P1.bind).of T1.sim
  obtain ⟨a, C, dx, fvs, rfl, ea, o2, o3, nl, o1, o4, o5⟩ := meth_look hK T hmt T1.sim d1 eg
  obtain rfl : u = Value.ref a := rx
  refine getmeth_ok I1 ea o2 o3 nl ?_
  have ha' : tA G Wx ras σ H1 fun vs H2 => spF G f g (Df.par g).length (.ref a :: vs) H2 Q (WE Wx σ) := by
    refine ⟨R, s1', ι1, ρ, T1.sim, D.step T1, ?_⟩
    have P3 := P2.bind
    cases e : ras ρ s1' with
    | none => rw [e] at P3; exact P3
    | some q =>
      obtain ⟨q, s'⟩ := q
      rw [e] at P3
      cases q with
      | error _ => exact P3
      | ok xs =>
        intro ι' H' T' vs d
        refine sp_of T'.sim (DenL.cons (T'.den d1) d) ?_ (P3 ι' H' T')
        rw [List.length_cons, ← d.length, hlen ρ _ xs s' e, o5]
  refine PySem.W.callWith_K (first := [.ref a]) (h₀ := X.base) I.ok.mod.kin o3.kp (thn (ha.run pos pins s1 σ H1 _ I1 ha') fun us s2 ⟨vs, H2, I2, r, q2⟩ => ⟨I2.kIn, ?_⟩) (starEach_plain hes'.1) (by rw [backTo_any]; exact starEach_all hes'.2)
  exact run_fnS (us := .ref a :: us) (vs := .ref a :: vs) (E := fun σ => WE Wx σ) (hlev g o1) hr o4 (passAt tk σ) I2 (.cons rfl r) q2
/-- o.m() -/
theorem pe_meth0W (hK : X.K = G.K) (T : Txt G.K G pg) (hlev : Lev X.prog X.w X.K X.mg X.base G Df k f) (hr : L2.Room k X.A) (tk : Takes X Wx) {m : Nat} (hmt : MethT G.K G pg Df m 0)
    (hbs : baseX o = true) (hl : (apos.endLine == pos.line) = true) (ho : PE X o (tE G Wx ra)) :
    PE X (.Call (.Attribute o (G.fnm m) apos) [] [] pos) (tE G Wx fun ρ => M.bind (ra ρ) fun u => M.bind (fun s => M.of (methOf pg m (insOf s u)) s) fun g => f g [u] none) := by
  refine ⟨fun pins st σ H Q I h => ?_⟩
  obtain ⟨R, s, ι, ρ, S, D, P⟩ := h
  refine PySem.W.methodCall_KW (pl := plainOf o X.env) (thn (ho.run pins st σ H (fun v H1 => ∃ s1 ι1 u, Step G R s ι H s1 ι1 H1 ∧ Den G (FzH G R s1 ι1 H1) ι1 u v ∧ Post G Wx σ R s1 ι1 H1 (M.bind (fun s => M.of (methOf pg m (insOf s u)) s) (fun g => f g [u] none) s1) fun w s' ι' H' => ∀ v, Den G (FzH G R s' ι' H') ι' w v → Q v H') I
    ⟨R, s, ι, ρ, S, D, P.bind.mono fun u s1 ι1 H1 T1 P1 v d => ⟨s1, ι1, u, T1, d, P1⟩⟩) fun u s1 ⟨x, H1, I1, rx, s1', ι1, u', T1, d1, P1⟩ => ?_) (meth_eval hbs hl rfl (by decide))
  obtain ⟨g, eg, P2⟩ := (P1.bind).of T1.sim
  obtain ⟨a, C, dx, fvs, rfl, ea, o2, o3, nl, o1, o4, o5⟩ := meth_look hK T hmt T1.sim d1 eg
  obtain rfl : u = Value.ref a := rx
  refine getmeth_ok I1 ea o2 o3 nl ?_
  refine PySem.W.callWith_K0 I1.kIn o3.kp ?_
  exact run_fnS (us := [.ref a]) (vs := [.ref a]) (E := fun σ => WE Wx σ) (hlev g o1) hr o4 (passAt tk σ) I1 (.cons rfl .nil) (sp_of T1.sim (DenL.cons d1 DenL.nil) (by rw [o5]; rfl) P2)
/-! ### instances -/
theorem run_makeS {pins : List (Addr × Obj)} {σ : L2.St} {H : Hp} {s : Shared} {Q : VK} {us : List Value} {vs : List V} {C fa : Addr} {fd : FuncData} {ps : List Str} {sp : Sp} {CX : CXT} {E : XK} (M : Mk X.K C fa) (F : FnOk X.prog X.w X.K X.mg X.base CX k fa fd ps sp) (hr : L2.Room (k + 1) X.A) (hb : Binds X.K fd ps [])
    (hx : PassesAt CX X σ E) (I : Inv X pins σ H s) (r : Vals vs us)
    (h : ∀ x dx, H x = none → H dx = none → dx ≠ x → sp (.ref x :: vs) (upd (upd H dx (.own x)) x (.ins C dx [])) (fun v H2 => v = .non ∧ Q (.ref x) H2) E) :
    wpAny (model X.prog X.w) X.A (call (.ref C) us) (EP X pins σ Q) X.xe s := by
  have hq := h (s.heap.objs.size + 1) s.heap.objs.size (I.hok.fresh (Nat.le_succ _)) (I.hok.fresh (Nat.le_refl _)) (Nat.ne_of_lt (Nat.lt_succ_self _))
  have I2 := Inv.made (C := C) I
  have r2 : Vals (V.ref (s.heap.objs.size + 1) :: vs) (Value.ref (s.heap.objs.size + 1) :: us) := .cons rfl r
  have hl : ((Value.ref (s.heap.objs.size + 1) :: us) ++ []).length = ps.length := by
    have e := r2.length
    rw [F.len _ _ _ _ hq] at e
    rw [List.append_nil]
    exact e.symm
  have hb2 := hb _ (Value.ref (s.heap.objs.size + 1) :: us) I2.kIn hl
  rw [List.append_nil] at hb2
  refine wpAny_call (make_map (f := fa) I.kIn M.makes M.init (beq_iff_eq.mp M.fn) (codeAny_mono (F.run _ X.stack _ _ ⟨Value.ref (s.heap.objs.size + 1) :: us, []⟩ (Value.ref (s.heap.objs.size + 1) :: us) _ _ E (hr.make C us [])
    (I2.env0.make C us []) hb2 r2 hq) fun r s' hq' => ?_))
  cases r with
  | error e => exact hx pins _ _ e s' I2 hq'
  | ok fl =>
    cases fl with
    | ret u =>
      obtain ⟨v, H', I3, rv, ev, q3⟩ := I2.after hq'
      subst ev
      exact ⟨rv, ⟨V.ref (s.heap.objs.size + 1), H', I3, rfl, q3⟩⟩
    | next => exact False.elim hq'
    | brk => exact False.elim hq'
    | cont => exact False.elim hq'
/-- a new instance, without fields -/
theorem Step.inst {R : List Addr} {s : Sto} {ι : List Addr} {H : Hp} (S : Sim G R s ι H) {x dx : Addr} (hx : H x = none) (hd : H dx = none) (hn : dx ≠ x) (c : Nat) :
    Step G R s ι H (s.new (.ins c [])) (ι ++ [x]) (upd (upd H dx (.own x)) x (.ins (G.cad c) dx [])) ∧ ∀ F' : Fz, Den G F' (ι ++ [x]) (.ref s.nxt) (.ref x) := by
  have T1 : Step G R s ι H s ι (upd H dx (.own x)) := Step.laid S hd
  obtain ⟨T2, d⟩ := Step.new T1.sim (p := x) (ho := .ins (G.cad c) dx []) (so := .ins c []) (by rw [upd_ne hn.symm]; exact hx) fun F' _ => ⟨dx, [], upd_same, by simp only [DenF]⟩
  exact ⟨T1.trans T2, d⟩
theorem make_ok {σ : L2.St} {R : List Addr} {s : Sto} {ι : List Addr} {H : Hp} {Q : VK} {ws : List W} {vs : List V} {c : Nat} (S : Sim G R s ι H) (d : DenL G (FzH G R s ι H) ι ws vs) {np : Nat} (hl : vs.length + 1 = np)
    (P : Post G Wx σ R s ι H (M.make pg f c ws s) fun w s' ι' H' => ∀ v, Den G (FzH G R s' ι' H') ι' w v → Q v H') :
    ∀ x dx, H x = none → H dx = none → dx ≠ x → spF G f (pg.ini c) np (.ref x :: vs) (upd (upd H dx (.own x)) x (.ins (G.cad c) dx [])) (fun v H2 => v = .non ∧ Q (.ref x) H2) (WE Wx σ) := by
  intro x dx hx hd hn
  obtain ⟨T, dr⟩ := Step.inst (G := G) S hx hd hn c
  unfold M.make at P
  have P1 := (Post.seq T P).bind
  refine ⟨by rw [List.length_cons]; exact hl, R, _, _, _, T.sim, DenL.cons (dr _) (T.denL d), ?_⟩
  cases e : f (pg.ini c) (.ref s.nxt :: ws) none (s.new (.ins c [])) with
  | none => rw [e] at P1; exact P1.elim
  | some q =>
    obtain ⟨q, s'⟩ := q
    rw [e] at P1
    cases q with
    | error _ => exact P1
    | ok w =>
      intro ι' H' T' v dv
      have P2 := P1 ι' H' T'
      have dx' : Den G (FzH G R s' ι' H') ι' (.ref s.nxt) (.ref x) := T'.den (dr _)
      cases w with
      | non =>
        refine ⟨of_non dv, ?_⟩
        by_cases hf : pg.frz c = true
        · rw [if_pos hf] at P2
          obtain ⟨w2, s2, e2, K⟩ := P2.op
          obtain ⟨T3, d3⟩ := freeze_ok T'.sim dx' e2
          exact K _ _ T3 _ d3
        · rw [if_neg hf] at P2
          exact P2.ret T'.sim _ dx'
      | _ => exact P2.elim
/-- C(e, ..) -/
theorem pe_newW (hK : X.K = G.K) (hlev : Lev X.prog X.w X.K X.mg X.base G Df k f) (hr : L2.Room (k + 1) X.A) (tk : Takes X Wx) {c : Nat} (hok : Df.ok (pg.ini c) = true) (hg : Gl X x) (hm : X.mg x = some (.ref (G.cad c)))
    (Mc : Mk X.K (G.cad c) (Df.fad (pg.ini c))) (hb : Binds X.K (Df.fdt (pg.ini c)) (Df.par (pg.ini c)) []) (hes : (e :: es).all plainX = true) (hn : (e :: es).length + 1 = (Df.par (pg.ini c)).length) (hdb : (x == ("__debug__" : Str)) = false)
    (ha : PA X (e :: es) (tA G Wx ras)) (hlen : ∀ ρ s r s', ras ρ s = some (.ok r, s') → r.length = (e :: es).length) :
    PE X (.Call (.Name x p) (e :: es) [] pos) (tE G Wx fun ρ => M.bind (ras ρ) fun xs => M.make pg f c xs) := by
  refine ⟨fun pins st σ H Q I h => ?_⟩
  have hes' : plainX e = true ∧ es.all plainX = true := by simpa using hes
  obtain ⟨R, s, ι, ρ, S, D, P⟩ := h
  have ha' : tA G Wx ras σ H fun vs H1 => ∀ x dx, H1 x = none → H1 dx = none → dx ≠ x → spF G f (pg.ini c) (Df.par (pg.ini c)).length (.ref x :: vs) (upd (upd H1 dx (.own x)) x (.ins (G.cad c) dx [])) (fun v H2 => v = .non ∧ Q (.ref x) H2) (WE Wx σ) := by
    refine ⟨R, s, ι, ρ, S, D, ?_⟩
    have P3 := P.bind
    cases e : ras ρ s with
    | none => rw [e] at P3; exact P3
    | some q =>
      obtain ⟨q, s'⟩ := q
      rw [e] at P3
      cases q with
      | error _ => exact P3
      | ok xs =>
        intro ι' H' T' vs d
        exact make_ok T'.sim d (by rw [← d.length, hlen ρ _ xs s' e, hn]) (P3 ι' H' T')
  refine wpAny_Call_Name_kw (ld_glob I hg hm ?_ hdb)
  refine PySem.W.callWith_K (h₀ := X.base) I.ok.mod.kin Mc.kp (thn (ha.run pos pins st σ H _ I ha') fun us s1 ⟨vs, H1, I1, r, q⟩ => ⟨I1.kIn, ?_⟩) (starEach_plain hes'.1) (by rw [backTo_any]; exact starEach_all hes'.2)
  exact run_makeS Mc (hlev _ hok) hr hb (passAt tk σ) I1 r q
/-- C() -/
theorem pe_new0W (hK : X.K = G.K) (hlev : Lev X.prog X.w X.K X.mg X.base G Df k f) (hr : L2.Room (k + 1) X.A) (tk : Takes X Wx) {c : Nat} (hok : Df.ok (pg.ini c) = true) (hg : Gl X x) (hm : X.mg x = some (.ref (G.cad c)))
    (Mc : Mk X.K (G.cad c) (Df.fad (pg.ini c))) (hb : Binds X.K (Df.fdt (pg.ini c)) (Df.par (pg.ini c)) []) (hn : 1 = (Df.par (pg.ini c)).length) (hdb : (x == ("__debug__" : Str)) = false) :
    PE X (.Call (.Name x p) [] [] pos) (tE G Wx fun _ => M.make pg f c []) := by
  refine ⟨fun pins st σ H Q I h => ?_⟩
  obtain ⟨R, s, ι, ρ, S, D, P⟩ := h
  refine wpAny_Call_Name_kw (ld_glob I hg hm ?_ hdb)
  refine PySem.W.callWith_K0 I.kIn Mc.kp ?_
  exact run_makeS (us := []) (vs := []) Mc (hlev _ hok) hr hb (passAt tk σ) I .nil (make_ok S DenL.nil (by rw [← hn]; rfl) P)
end
end Mn

end

section
set_option Elab.async false
set_option linter.all false
set_option maxRecDepth 100000
set_option maxHeartbeats 2000000
/-! Mini: built-ins by values. -/
namespace Mn
open PySem PySem.Spec PyProof.Rows L2
/-- a built-in by the small machine's -/
def rB (G : Gx) (f : List W → Op1 W) : List V → Hp → VK → Prop := fun vs H Q => ∃ R s ι ws w s', Sim G R s ι H ∧ DenL G (FzH G R s ι H) ι ws vs ∧ f ws s = some (w, s') ∧ ∀ ι' H' v, Step G R s ι H s' ι' H' → Den G (FzH G R s' ι' H') ι' w v → Q v H'
theorem CallR.imp {X : Cx} {f : Value} {r r' : List V → Hp → VK → Prop} (h : CallR X f r) (hi : ∀ vs H Q, r' vs H Q → r vs H Q) : CallR X f r' := fun pins s σ H xs us Q I rx q => h pins s σ H xs us Q I rx (hi _ _ _ q)
theorem cb_imp {G : Gx} {Wx : WX} {f : List W → Op1 W} {ras : Env → M (List W)} {σ : L2.St} {H : Hp} {Q : VK} (h : tE G Wx (fun ρ => M.bind (ras ρ) fun xs => M.op (f xs)) σ H Q) : tCB (rB G f) (tA G Wx ras) σ H Q := by
  obtain ⟨R, s, ι, ρ, S, D, P⟩ := h
  refine ⟨R, s, ι, ρ, S, D, P.bind.mono fun xs s1 ι1 H1 T1 P1 vs d1 => ?_⟩
  obtain ⟨w, s3, e, K⟩ := P1.op
  exact ⟨R, s1, ι1, xs, w, s3, T1.sim, d1, e, fun ι' H' v T d => K ι' H' T v d⟩
section
variable {X : Cx} {G : Gx} {R : List Addr} {s : Sto} {ι : List Addr} {H : Hp}
theorem denl1 {F : Fz} {ι : List Addr} {w : W} {vs : List V} (d : DenL G F ι [w] vs) : ∃ v, vs = [v] ∧ Den G F ι w v := by
  simp only [DenL] at d
  obtain ⟨v, r, rfl, d, rfl⟩ := d
  exact ⟨v, rfl, d⟩
theorem denl2 {F : Fz} {ι : List Addr} {w u : W} {vs : List V} (d : DenL G F ι [w, u] vs) : ∃ v z, vs = [v, z] ∧ Den G F ι w v ∧ Den G F ι u z := by
  simp only [DenL] at d
  obtain ⟨v, r, rfl, d, z, q, rfl, e, rfl⟩ := d
  exact ⟨v, z, rfl, d, e⟩
theorem ints_den {F : Fz} {ι : List Addr} : ∀ {ws : List W} {is : List Int} {vs : List V}, intsOf ws = some is → DenL G F ι ws vs → vs = is.map V.int
  | [], is, vs, h, d => by
    simp only [intsOf] at h
    cases h
    simp only [DenL] at d
    exact d
  | w :: r, is, vs, h, d => by
    cases w with
    | int i =>
      simp only [intsOf] at h
      cases e : intsOf r with
      | none => rw [e] at h; cases h
      | some js =>
        rw [e] at h
        cases h
        simp only [DenL] at d
        obtain ⟨v, q, rfl, d1, d2⟩ := d
        rw [of_int d1, ints_den e d2]
        rfl
    | _ => simp [intsOf] at h
theorem ints_is {F : Fz} {ι : List Addr} : ∀ (is : List Int), DenL G F ι (is.map .int) (is.map V.int)
  | [] => DenL.nil
  | i :: r => DenL.cons den_int (ints_is r)
theorem seq_den (S : Sim G R s ι H) {w : W} {v : V} (d : Den G (FzH G R s ι H) ι w v) {xs : List W} (h : seqOf s w = some xs) :
    ∃ a vs, v = .ref a ∧ ((Rd H a (.lst vs)) ∨ (Rd H a (.tup vs))) ∧ DenL G (FzH G R s ι H) ι xs vs := by
  cases w with
  | tup ys =>
    cases h
    simp only [Den] at d
    obtain ⟨a, vs, rfl, f, d⟩ := d
    exact ⟨a, vs, rfl, .inr (.inl f.2), d⟩
  | ctp ys =>
    cases h
    simp only [Den] at d
    obtain ⟨a, ob, vs, rfl, f, d⟩ := d
    exact ⟨a, vs, rfl, .inr (.inr ⟨_, f.2⟩), d⟩
  | lst ys => obtain ⟨a, vs, e, r, d⟩ := lst_den S d (xs := xs) h; exact ⟨a, vs, e, .inl r, d⟩
  | ref n => obtain ⟨a, vs, e, r, d⟩ := lst_den S d (xs := xs) h; exact ⟨a, vs, e, .inl r, d⟩
  | _ => cases h
theorem tup_den (S : Sim G R s ι H) {w : W} {v : V} (d : Den G (FzH G R s ι H) ι w v) {xs : List W} (h : tupOf s w = some xs) :
    ∃ a vs, v = .ref a ∧ ((Rd H a (.lst vs)) ∨ (FzH G R s ι H a (.tup vs))) ∧ DenL G (FzH G R s ι H) ι xs vs := by
  cases w with
  | tup ys =>
    cases h
    simp only [Den] at d
    obtain ⟨a, vs, rfl, f, d⟩ := d
    exact ⟨a, vs, rfl, .inr f, d⟩
  | lst ys => obtain ⟨a, vs, e, r, d⟩ := lst_den S d (xs := xs) h; exact ⟨a, vs, e, .inl r, d⟩
  | ref n => obtain ⟨a, vs, e, r, d⟩ := lst_den S d (xs := xs) h; exact ⟨a, vs, e, .inl r, d⟩
  | _ => cases h
theorem maxL_max : ∀ (r : List Int) (m : Int), maxL m r ∈ m :: r ∧ ∀ y ∈ m :: r, y ≤ maxL m r
  | [], m => by simp [maxL]
  | i :: r, m => by
    have h := maxL_max r (if m < i then i else m)
    unfold maxL
    by_cases c : m < i
    · simp only [if_pos c] at h ⊢
      refine ⟨List.mem_cons_of_mem _ h.1, fun y hy => ?_⟩
      rcases List.mem_cons.mp hy with rfl | hy
      · have := h.2 i List.mem_cons_self
        omega
      · exact h.2 y hy
    · simp only [if_neg c] at h ⊢
      refine ⟨?_, fun y hy => ?_⟩
      · rcases List.mem_cons.mp h.1 with e | e
        · rw [e]; exact List.mem_cons_self
        · exact List.mem_cons_of_mem _ (List.mem_cons_of_mem _ e)
      · have := h.2 m List.mem_cons_self
        rcases List.mem_cons.mp hy with rfl | hy
        · exact this
        · rcases List.mem_cons.mp hy with rfl | hy
          · omega
          · exact h.2 y (List.mem_cons_of_mem _ hy)
theorem minL_min : ∀ (r : List Int) (m : Int), minL m r ∈ m :: r ∧ ∀ y ∈ m :: r, minL m r ≤ y
  | [], m => by simp [minL]
  | i :: r, m => by
    have h := minL_min r (if i < m then i else m)
    unfold minL
    by_cases c : i < m
    · simp only [if_pos c] at h ⊢
      refine ⟨List.mem_cons_of_mem _ h.1, fun y hy => ?_⟩
      rcases List.mem_cons.mp hy with rfl | hy
      · have := h.2 i List.mem_cons_self
        omega
      · exact h.2 y hy
    · simp only [if_neg c] at h ⊢
      refine ⟨?_, fun y hy => ?_⟩
      · rcases List.mem_cons.mp h.1 with e | e
        · rw [e]; exact List.mem_cons_self
        · exact List.mem_cons_of_mem _ (List.mem_cons_of_mem _ e)
      · have := h.2 m List.mem_cons_self
        rcases List.mem_cons.mp hy with rfl | hy
        · exact this
        · rcases List.mem_cons.mp hy with rfl | hy
          · omega
          · exact h.2 y (List.mem_cons_of_mem _ hy)
theorem insI_perm (i : Int) : ∀ r, (insI i r).Perm (i :: r)
  | [] => .refl _
  | j :: r => by
    unfold insI
    by_cases c : i ≤ j
    · rw [if_pos c]
    · rw [if_neg c]
      exact ((insI_perm i r).cons j).trans (.swap _ _ _)
theorem sortI_perm : ∀ r, (sortI r).Perm r
  | [] => .refl _
  | i :: r => (insI_perm i _).trans ((sortI_perm r).cons i)
theorem insI_sorted (i : Int) : ∀ r : List Int, r.Pairwise (· ≤ ·) → (insI i r).Pairwise (· ≤ ·)
  | [], _ => by simp [insI]
  | j :: r, h => by
    unfold insI
    rw [List.pairwise_cons] at h
    by_cases c : i ≤ j
    · rw [if_pos c, List.pairwise_cons]
      refine ⟨fun y hy => ?_, List.pairwise_cons.mpr h⟩
      rcases List.mem_cons.mp hy with rfl | hy
      · exact c
      · have := h.1 y hy; omega
    · rw [if_neg c, List.pairwise_cons]
      refine ⟨fun y hy => ?_, insI_sorted i r h.2⟩
      rcases List.mem_cons.mp ((insI_perm i r).mem_iff.mp hy) with rfl | hy
      · omega
      · exact h.1 y hy
theorem sortI_sorted : ∀ r : List Int, (sortI r).Pairwise (· ≤ ·)
  | [] => .nil
  | i :: r => insI_sorted i _ (sortI_sorted r)
theorem sorted_one : ∀ {a b : List Int}, a.Perm b → a.Pairwise (· ≤ ·) → b.Pairwise (· ≤ ·) → a = b := fun p h k => List.Perm.eq_of_pairwise (fun _ _ _ _ h1 h2 => Int.le_antisymm h1 h2) h k p
theorem sumW_sum : ∀ {ws : List W} {a t : Int}, sumW a ws = some t → ∃ is, intsOf ws = some is ∧ t = a + is.sum
  | [], a, t, h => by
    simp only [sumW] at h
    cases h
    exact ⟨[], rfl, by simp⟩
  | w :: r, a, t, h => by
    cases w with
    | int i =>
      simp only [sumW] at h
      obtain ⟨is, e, q⟩ := sumW_sum h
      refine ⟨i :: is, by simp [intsOf, e], ?_⟩
      rw [q, List.sum_cons]
      omega
    | _ => simp [sumW] at h
/-! ### each built-in -/
theorem Op1.of_some {α : Type} {o : Option α} {s s' : Sto} {a : α} (h : Op1.of o s = some (a, s')) : o = some a ∧ s' = s := by
  unfold Op1.of at h
  cases o with
  | none => cases h
  | some b => cases h; exact ⟨rfl, rfl⟩
theorem keys_ints {F : Fz} {ι : List Addr} : ∀ {kvs : List (Ky × W)} {is : List Int} {q : List (L2.Key × V)}, intsOf (kvs.map fun p => kyW p.1) = some is → DenDK G F ι kvs q → q.map (·.1) = is.map Sum.inl
  | [], is, q, h, d => by
    simp [intsOf] at h
    subst h
    simp only [DenDK] at d
    subst d
    rfl
  | (k, x) :: r, is, q, h, d => by
    cases k with
    | many ks => simp only [DenDK] at d
    | one k =>
      cases k with
      | str t => simp [intsOf, kyW, k1W] at h
      | int i =>
        have h : (intsOf (r.map fun p => kyW p.1)).map (fun is => i :: is) = some is := h
        cases e : intsOf (r.map fun p => kyW p.1) with
        | none => rw [e] at h; cases h
        | some js =>
          rw [e] at h
          cases h
          simp only [DenDK] at d
          obtain ⟨v, z, rfl, d1, d2⟩ := d
          rw [List.map_cons, keys_ints e d2]
          rfl
theorem cb_one {f : Value} {g : List W → Op1 W} (h0 : ∀ ws s r, g ws s = some r → ∃ x, ws = [x])
    (h : ∀ (pins : List (Addr × Obj)) (st : Shared) (σ : L2.St) (R : List Addr) (s : Sto) (ι : List Addr) (H : Hp) (x w : W) (s' : Sto) (v : V) (u : Value) (Q : VK), Inv X pins σ H st → RelV v u → Sim G R s ι H → Den G (FzH G R s ι H) ι x v → g [x] s = some (w, s') →
      (∀ ι' H' v, Step G R s ι H s' ι' H' → Den G (FzH G R s' ι' H') ι' w v → Q v H') → wpAny (model X.prog X.w) X.A (call f [u]) (EP X pins σ Q) X.xe st) : CallR X f (rB G g) := by
  intro pins st σ H vs us Q I rx q
  obtain ⟨R, s, ι, ws, w, s', S, d, e, K⟩ := q
  obtain ⟨x, rfl⟩ := h0 _ _ _ e
  obtain ⟨v, rfl, d1⟩ := denl1 d
  obtain ⟨u, rfl, ru⟩ := vals1 rx
  exact h pins st σ R s ι H x w s' v u Q I ru S d1 e K
theorem cb_len : CallR X (.builtin "len") (rB G (biW .len)) := by
  refine cb_one (fun ws s r e => ?_) fun pins st σ R s ι H x w s' v u Q I ru S d e K => ?_
  · match ws, e with
    | [], e => simp [biW] at e
    | [x], _ => exact ⟨x, rfl⟩
    | x :: y :: r, e => simp [biW] at e
  · have viaD : ∀ kvs, dctOf s x = some kvs → some (W.int kvs.length, s) = some (w, s') → wpAny (model X.prog X.w) X.A (call (.builtin "len") [u]) (EP X pins σ Q) X.xe st := fun kvs hd e => by
      cases e
      obtain ⟨p, o, rfl, ⟨rd, r0⟩, dd⟩ := dct_den S d hd
      obtain rfl : u = Value.ref p := ru
      rcases dd.dk with ⟨q, rfl, dq⟩ | ⟨q, rfl, dq⟩
      · refine d_len I rd fun t st' I' => ⟨.int kvs.length, H, I', ⟨t, by rw [dq.length]⟩, K ι H _ (Step.refl S) den_int⟩
      · obtain ⟨z, hd', ys, rel, dd'⟩ := dt_rd I.hok rd
        have hl : q.length = ys.length := Paired.length rel
        refine call_len_dictH hd' dd' (by rw [← hl]; rw [sizeLine_eq] at z; omega) ?_
        rw [← hl]
        exact ⟨.int kvs.length, H, I.tok _, ⟨_, by rw [dq.length]⟩, K ι H _ (Step.refl S) den_int⟩
    have viaS : Op1.of ((seqOf s x).map fun ys => W.int ys.length) s = some (w, s') → wpAny (model X.prog X.w) X.A (call (.builtin "len") [u]) (EP X pins σ Q) X.xe st := fun e => by
      obtain ⟨e, rfl⟩ := Op1.of_some e
      simp only [Option.map_eq_some_iff] at e
      obtain ⟨ys, ey, rfl⟩ := e
      obtain ⟨a, vs, rfl, h1, dl⟩ := seq_den S d ey
      have k := K ι H (.int ys.length) (Step.refl S) den_int
      rw [dl.length] at k
      rcases h1 with h1 | h1
      · exact call_len_seq pins st σ H [_] [u] Q I (.cons ru .nil) ⟨a, vs, rfl, .inl (.inl h1), k⟩
      · exact call_len_seq pins st σ H [_] [u] Q I (.cons ru .nil) ⟨a, vs, rfl, .inr (Or.inl h1), k⟩
    have viaB : (∀ t, x ≠ .str t) → wpAny (model X.prog X.w) X.A (call (.builtin "len") [u]) (EP X pins σ Q) X.xe st := fun hx => by
      cases q : dctOf s x with
      | some kvs =>
        refine viaD kvs q ?_
        cases x <;> first | exact absurd rfl (hx _) | (simp only [biW] at e; rw [q] at e; exact e)
      | none =>
        refine viaS ?_
        cases x <;> first | exact absurd rfl (hx _) | (simp only [biW] at e; rw [q] at e; exact e)
    cases x with
    | str t =>
      simp only [biW] at e
      split at e
      · rename_i hl
        cases e
        obtain rfl := of_str d
        exact call_len_str pins st σ H [_] [u] Q I (.cons ru .nil) ⟨_, rfl, by simpa [Str.length] using hl, K ι H _ (Step.refl S) (by simp [Str.length, Den])⟩
      · cases e
    | _ => exact viaB fun t z => by cases z
theorem cb_int : CallR X (.type "int") (rB G (biW .int)) := by
  refine cb_one (fun ws s r e => ?_) fun pins st σ R s ι H x w s' v u Q I ru S d e K => ?_
  · match ws, e with
    | [], e => simp [biW] at e
    | [x], _ => exact ⟨x, rfl⟩
    | x :: y :: r, e => simp [biW] at e
  · cases x with
    | int i =>
      cases e
      obtain rfl := of_int d
      exact call_int1 pins st σ H [_] [u] Q I (.cons ru .nil) (.inl ⟨i, rfl, K ι H _ (Step.refl S) den_int⟩)
    | bl b =>
      cases e
      obtain rfl := of_bl d
      exact call_int1 pins st σ H [_] [u] Q I (.cons ru .nil) (.inr ⟨b, rfl, K ι H _ (Step.refl S) den_int⟩)
    | _ => simp [biW] at e
theorem cb_abs : CallR X (.builtin "abs") (rB G (biW .abs)) := by
  refine cb_one (fun ws s r e => ?_) fun pins st σ R s ι H x w s' v u Q I ru S d e K => ?_
  · match ws, e with
    | [], e => simp [biW] at e
    | [x], _ => exact ⟨x, rfl⟩
    | x :: y :: r, e => simp [biW] at e
  · cases x with
    | int i =>
      cases e
      obtain rfl := of_int d
      exact call_abs pins st σ H [_] [u] Q I (.cons ru .nil) ⟨i, rfl, K ι H _ (Step.refl S) den_int⟩
    | _ => simp [biW] at e
theorem cb_mm2 {b : Bi} {f : Value} {g : Int → Int → Int} (hb : ∀ ws s r, biW b ws s = some r → ∃ i j, ws = [.int i, .int j] ∧ r = (.int (g i j), s))
    (h : CallR X f (fun xs H Q => ∃ i j, xs = [.int i, .int j] ∧ Q (.int (g i j)) H)) : CallR X f (rB G (biW b)) := by
  refine CallR.imp h fun vs H Q q => ?_
  obtain ⟨R, s, ι, ws, w, s', S, d, e, K⟩ := q
  obtain ⟨i, j, rfl, e3⟩ := hb _ _ _ e
  obtain ⟨rfl, rfl⟩ := Prod.mk.inj e3
  obtain ⟨v, z, rfl, d1, d2⟩ := denl2 d
  rw [of_int d1, of_int d2]
  exact ⟨i, j, rfl, K ι H _ (Step.refl S) den_int⟩
theorem bi2 {b : Bi} {g : Int → Int → Int} (hg : ∀ i j s, biW b [.int i, .int j] s = some (.int (g i j), s)) (h0 : ∀ s, biW b [] s = none) (h1 : ∀ x s, biW b [x] s = none) (h3 : ∀ x y z r s, biW b (x :: y :: z :: r) s = none)
    (h2 : ∀ x y s, (∀ i, x ≠ .int i) ∨ (∀ i, y ≠ .int i) → biW b [x, y] s = none) : ∀ ws s r, biW b ws s = some r → ∃ i j, ws = [.int i, .int j] ∧ r = (.int (g i j), s) := fun ws s r e => by
  match ws, e with
  | [], e => rw [h0] at e; cases e
  | [x], e => rw [h1] at e; cases e
  | x :: y :: z :: t, e => rw [h3] at e; cases e
  | [x, y], e =>
    by_cases hx : ∃ i, x = .int i
    · by_cases hy : ∃ j, y = .int j
      · obtain ⟨i, rfl⟩ := hx
        obtain ⟨j, rfl⟩ := hy
        rw [hg] at e
        cases e
        exact ⟨i, j, rfl, rfl⟩
      · rw [h2 _ _ _ (.inr fun i z => hy ⟨i, z⟩)] at e; cases e
    · rw [h2 _ _ _ (.inl fun i z => hx ⟨i, z⟩)] at e; cases e
theorem cb_max2 (hc : X.calm = true) : CallR X (.builtin "max") (rB G (biW .max2)) :=
  cb_mm2 (bi2 (g := fun i j => if i < j then j else i) (fun _ _ _ => rfl) (fun _ => rfl) (fun x _ => by cases x <;> rfl) (fun x y _ _ _ => by cases x <;> cases y <;> rfl) fun x y s h => by
    rcases h with h | h <;> cases x <;> cases y <;> first | rfl | exact absurd rfl (h _)) (call_max2 hc)
theorem cb_min2 (hc : X.calm = true) : CallR X (.builtin "min") (rB G (biW .min2)) :=
  cb_mm2 (bi2 (g := fun i j => if j < i then j else i) (fun _ _ _ => rfl) (fun _ => rfl) (fun x _ => by cases x <;> rfl) (fun x y _ _ _ => by cases x <;> cases y <;> rfl) fun x y s h => by
    rcases h with h | h <;> cases x <;> cases y <;> first | rfl | exact absurd rfl (h _)) (call_min2 hc)
theorem ints_lst (S : Sim G R s ι H) {x : W} {v : V} (d : Den G (FzH G R s ι H) ι x v) {ys : List W} {is : List Int} (e : lstOf s x = some ys) (e2 : intsOf ys = some is) : ∃ a, v = .ref a ∧ Rd H a (.lst (is.map V.int)) := by
  obtain ⟨a, vs, rfl, r, dl⟩ := lst_den S d e
  rw [ints_den e2 dl] at r
  exact ⟨a, rfl, r⟩
theorem cb_max1 (hc : X.calm = true) : CallR X (.builtin "max") (rB G (biW .max1)) := by
  refine cb_one (fun ws s r e => ?_) fun pins st σ R s ι H x w s' v u Q I ru S d e K => ?_
  · match ws, e with
    | [], e => simp [biW] at e
    | [x], _ => exact ⟨x, rfl⟩
    | x :: y :: r, e => simp [biW] at e
  · simp only [biW] at e
    obtain ⟨e, rfl⟩ := Op1.of_some e
    simp only [Option.bind_eq_some_iff] at e
    obtain ⟨ys, e1, is, e2, e⟩ := e
    cases is with
    | nil => cases e
    | cons i r =>
      cases e
      obtain ⟨a, rfl, rd⟩ := ints_lst S d e1 e2
      refine cr_max hc pins st σ H [_] [u] Q I (.cons ru .nil) ⟨a, i :: r, rfl, .inl rd, by simp, fun m hm hy => ?_⟩
      have h := maxL_max r i
      have em : m = maxL i r := Int.le_antisymm (h.2 m hm) (hy _ h.1)
      rw [em]
      exact K ι H _ (Step.refl S) den_int
theorem cb_min1 (hc : X.calm = true) : CallR X (.builtin "min") (rB G (biW .min1)) := by
  refine cb_one (fun ws s r e => ?_) fun pins st σ R s ι H x w s' v u Q I ru S d e K => ?_
  · match ws, e with
    | [], e => simp [biW] at e
    | [x], _ => exact ⟨x, rfl⟩
    | x :: y :: r, e => simp [biW] at e
  · simp only [biW] at e
    obtain ⟨e, rfl⟩ := Op1.of_some e
    simp only [Option.bind_eq_some_iff] at e
    obtain ⟨ys, e1, is, e2, e⟩ := e
    cases is with
    | nil => cases e
    | cons i r =>
      cases e
      obtain ⟨a, rfl, rd⟩ := ints_lst S d e1 e2
      refine cr_min hc pins st σ H [_] [u] Q I (.cons ru .nil) ⟨a, i :: r, rfl, .inl rd, by simp, fun m hm hy => ?_⟩
      have h := minL_min r i
      have em : m = minL i r := Int.le_antisymm (hy _ h.1) (h.2 m hm)
      rw [em]
      exact K ι H _ (Step.refl S) den_int
theorem cb_sum (hc : X.calm = true) : CallR X (.builtin "sum") (rB G (biW .sum)) := by
  refine cb_one (fun ws s r e => ?_) fun pins st σ R s ι H x w s' v u Q I ru S d e K => ?_
  · match ws, e with
    | [], e => simp [biW] at e
    | [x], _ => exact ⟨x, rfl⟩
    | x :: y :: r, e => simp [biW] at e
  · simp only [biW] at e
    obtain ⟨e, rfl⟩ := Op1.of_some e
    simp only [Option.bind_eq_some_iff, Option.map_eq_some_iff] at e
    obtain ⟨ys, e1, t, e2, rfl⟩ := e
    obtain ⟨is, e3, rfl⟩ := sumW_sum e2
    obtain ⟨a, rfl, rd⟩ := ints_lst S d e1 e3
    refine cr_sum hc pins st σ H [_] [u] Q I (.cons ru .nil) ⟨a, is, rfl, .inl rd, ?_⟩
    have := K ι H (.int (0 + is.sum)) (Step.refl S) den_int
    rwa [Int.zero_add] at this
theorem cb_sorted (hc : X.calm = true) : CallR X (.builtin "sorted") (rB G (biW .sorted)) := by
  refine cb_one (fun ws s r e => ?_) fun pins st σ R s ι H x w s' v u Q I ru S d e K => ?_
  · match ws, e with
    | [], e => simp [biW] at e
    | [x], _ => exact ⟨x, rfl⟩
    | x :: y :: r, e => simp [biW] at e
  · simp only [biW] at e
    obtain ⟨e, rfl⟩ := Op1.of_some e
    simp only [Option.bind_eq_some_iff] at e
    obtain ⟨ys, e1, is, e2, e⟩ := e
    split at e
    · rename_i h64
      cases e
      have fin : ∀ (ns' : List Int) (p : Addr), ns'.Perm is → ns'.Pairwise (· ≤ ·) → H p = none → Q (.ref p) (upd H p (.lst (ns'.map V.int))) := fun ns' p hp hs hn => by
        have en : ns' = sortI is := sorted_one (hp.trans (sortI_perm is).symm) hs (sortI_sorted is)
        rw [en]
        obtain ⟨T, e⟩ := new_lst S hn (ints_is (G := G) (F := FzH G R s' ι H) (ι := ι) (sortI is))
        exact K _ _ _ T e
      unfold itemsOf at e1
      cases q : dctOf s' x with
      | some kvs =>
        rw [q] at e1
        cases e1
        obtain ⟨p, o, rfl, ⟨rd, r0⟩, dd⟩ := dct_den S d q
        have viaK : ∀ z, o = .dK z → DenDK G (FzH G R s' ι H) ι kvs z → wpAny (model X.prog X.w) X.A (call (.builtin "sorted") [u]) (EP X pins σ Q) X.xe st := fun z ez dz => by
          subst ez
          exact call_sortedDI hc pins st σ H [_] [u] Q I (.cons ru .nil) ⟨p, z, is, rfl, rd, keys_ints e2 dz, h64, fun ns' p hp hs hn => fin ns' p hp hs hn⟩
        rcases dd.dk with ⟨z, ez, dz⟩ | ⟨z, ez, dz⟩
        · exact viaK z ez dz
        · cases kvs with
          | cons k r =>
            obtain ⟨k, y⟩ := k
            cases k with
            | one k => simp only [DenDT] at dz
            | many ks => simp [intsOf, kyW] at e2
          | nil =>
            simp only [DenDT] at dz
            subst dz
            subst ez
            simp [intsOf] at e2
            subst e2
            have hH : H p = some (.dT []) := r0 rfl
            have I2 := inv_flip I (.inr ⟨rfl, rfl⟩) hH
            refine wpAny_mono (call_sortedDI hc pins st σ (upd H p (.dK [])) [_] [u] (fun v H2 => ∃ z, v = .ref z ∧ upd H p (.dK []) z = none ∧ H2 = upd (upd H p (.dK [])) z (.lst [])) I2 (.cons ru .nil) ⟨p, [], [], rfl, .inl upd_same, rfl, by simp, fun ns' z hp hs hn => ?_⟩) (fun v' st' h' => ?_) fun _ _ h' => h'
            · have en : ns' = [] := List.Perm.eq_nil hp
              subst en
              exact ⟨z, rfl, hn, rfl⟩
            · obtain ⟨v2, H2, I3, r3, z, rfl, hz, rfl⟩ := h'
              have nz : z ≠ p := fun q => by rw [q, upd_same] at hz; cases hz
              rw [upd_ne nz] at hz
              have I4 := inv_flip (a := p) (u := .dK []) (u' := .dT []) I3 (.inl ⟨rfl, rfl⟩) (by rw [upd_ne nz.symm, upd_same])
              have eH : upd (upd (upd H p (.dK [])) z (.lst [])) p (.dT []) = upd H z (.lst []) := by
                funext b
                unfold upd
                by_cases h1 : b = p
                · rw [if_pos h1, if_neg (fun q => nz (by rw [← q, h1])), h1]; exact hH.symm
                · rw [if_neg h1]
                  by_cases h2 : b = z
                  · rw [if_pos h2, if_pos h2]
                  · rw [if_neg h2, if_neg h2, if_neg h1]
              rw [eH] at I4
              exact ⟨.ref z, _, I4, r3, fin [] z (.refl _) .nil hz⟩
      | none =>
        rw [q] at e1
        obtain ⟨a, rfl, rd⟩ := ints_lst S d e1 e2
        exact cr_sortedI pins st σ H [_] [u] Q I (.cons ru .nil) ⟨a, is, rfl, .inl rd, fin⟩
    · cases e
theorem cb_tuple : CallR X (.type "tuple") (rB G (biW .tuple)) := by
  refine cb_one (fun ws s r e => ?_) fun pins st σ R s ι H x w s' v u Q I ru S d e K => ?_
  · match ws, e with
    | [], e => simp [biW] at e
    | [x], _ => exact ⟨x, rfl⟩
    | x :: y :: r, e => simp [biW] at e
  · simp only [biW] at e
    obtain ⟨e, rfl⟩ := Op1.of_some e
    simp only [Option.map_eq_some_iff] at e
    obtain ⟨ys, e1, rfl⟩ := e
    obtain ⟨a, vs, rfl, h1, dl⟩ := tup_den S d e1
    rcases h1 with h1 | h1
    · refine call_tuple_of pins st σ H [_] [u] Q I (.cons ru .nil) ⟨a, vs, rfl, .inl ⟨.inl h1, fun p hp => ?_⟩⟩
      obtain ⟨T, e⟩ := new_tup S hp dl
      exact K _ _ _ T e
    · refine call_tuple_of pins st σ H [_] [u] Q I (.cons ru .nil) ⟨a, vs, rfl, .inr ⟨SqT.of h1.2, K ι H _ (Step.refl S) ?_⟩⟩
      simp only [Den]
      exact ⟨a, vs, rfl, h1, dl⟩
theorem cb_list {m : Bool} : CallR X (.type "list") (rB G (biW (.list m))) := by
  refine cb_one (fun ws s r e => ?_) fun pins st σ R s ι H x w s' v u Q I ru S d e K => ?_
  · match ws, e with
    | [], e => simp [biW] at e
    | [x], _ => exact ⟨x, rfl⟩
    | x :: y :: r, e => simp [biW] at e
  · simp only [biW] at e
    split at e
    · rename_i ys e1
      obtain ⟨hl, mk⟩ := mkL_ok S e
      obtain ⟨a, vs, rfl, h1, dl⟩ := seq_den S d e1
      have fin : ∀ p, H p = none → Q (.ref p) (upd H p (.lst vs)) := fun p hp => by
        obtain ⟨ι', T, d2⟩ := mk p vs hp dl
        exact K ι' _ _ T d2
      rcases h1 with h1 | h1
      · exact call_list_of pins st σ H [_] [u] Q I (.cons ru .nil) ⟨a, vs, rfl, .inl (.inl h1), fin⟩
      · exact call_list_of pins st σ H [_] [u] Q I (.cons ru .nil) ⟨a, vs, rfl, .inr (Or.inl h1), fin⟩
    · cases e
end
section
variable {X : Cx} {G : Gx} {Wx : WX} {a e : PySem.Expr} {es : List PySem.Expr} {ra : Env → M W} {ras : Env → M (List W)} {pos p : Pos} {f : List W → Op1 W} {x : Str} {id T : String}
theorem pe_biW (hc : CallR X (.builtin id) (rB G f)) (hg : Gl X x) (hm : X.mg x = none) (hv : bootBuiltins x = some (.builtin id)) (ha : PA X (e :: es) (tA G Wx ras)) (hn : x ≠ "__name__") (hdb : (x == ("__debug__" : Str)) = false) (hes : (e :: es).all plainX = true) :
    PE X (.Call (.Name x p) (e :: es) [] pos) (tE G Wx fun ρ => M.bind (ras ρ) fun xs => M.op (f xs)) := by
  have hes' : plainX e = true ∧ es.all plainX = true := by simpa using hes
  exact PE.imp (pe_callB hc hg hm hv ha hn hdb (starEach_plain hes'.1) (by rw [backTo_any]; exact starEach_all hes'.2)) fun _ _ _ h => cb_imp h
theorem pe_tyW (hc : CallR X (.type T) (rB G f)) (hg : Gl X x) (hm : X.mg x = none) (hv : bootBuiltins x = some (.type T)) (ha : PA X (e :: es) (tA G Wx ras)) (hn : x ≠ "__name__") (hdb : (x == ("__debug__" : Str)) = false) (hes : (e :: es).all plainX = true) :
    PE X (.Call (.Name x p) (e :: es) [] pos) (tE G Wx fun ρ => M.bind (ras ρ) fun xs => M.op (f xs)) := by
  have hes' : plainX e = true ∧ es.all plainX = true := by simpa using hes
  exact PE.imp (pe_callTy hc hg hm hv ha hn hdb (starEach_plain hes'.1) (by rw [backTo_any]; exact starEach_all hes'.2)) fun _ _ _ h => cb_imp h
end
end Mn

end

section
set_option Elab.async false
set_option linter.all false
set_option maxRecDepth 100000
set_option maxHeartbeats 2000000
/-! Mini: what is walked. -/
namespace Mn
open PySem PySem.Spec PyProof.Rows L2
mutual
theorem beq_refl : ∀ w : W, W.beq w w = true
  | .non => by simp [W.beq]
  | .bl _ => by simp [W.beq]
  | .int _ => by simp [W.beq]
  | .str _ => by simp [W.beq]
  | .tup xs => by simp [W.beq, beqL_refl xs]
  | .lst xs => by simp [W.beq, beqL_refl xs]
  | .dct xs => by simp [W.beq, beqD_refl xs]
  | .obj c xs => by simp [W.beq, beqF_refl xs]
  | .ref n => by simp [W.beq]
  | .ctp xs => by simp [W.beq, beqL_refl xs]
theorem beqL_refl : ∀ w : List W, beqL w w = true
  | [] => by simp [beqL]
  | x :: xs => by simp [beqL, beq_refl x, beqL_refl xs]
theorem beqD_refl : ∀ w : List (Ky × W), beqD w w = true
  | [] => by simp [beqD]
  | (k, x) :: xs => by simp [beqD, beq_refl x, beqD_refl xs]
theorem beqF_refl : ∀ w : List (Nat × W), beqF w w = true
  | [] => by simp [beqF]
  | (k, x) :: xs => by simp [beqF, beq_refl x, beqF_refl xs]
end
mutual
theorem beq_eq : ∀ {a b : W}, W.beq a b = true → a = b
  | .non, b, h => by cases b <;> simp [W.beq] at h <;> rfl
  | .bl _, b, h => by cases b <;> simp [W.beq] at h; rw [h]
  | .int _, b, h => by cases b <;> simp [W.beq] at h; rw [h]
  | .str _, b, h => by cases b <;> simp [W.beq] at h; rw [h]
  | .tup xs, b, h => by cases b <;> simp [W.beq] at h; rw [beqL_eq h]
  | .lst xs, b, h => by cases b <;> simp [W.beq] at h; rw [beqL_eq h]
  | .dct xs, b, h => by cases b <;> simp [W.beq] at h; rw [beqD_eq h]
  | .obj c xs, b, h => by cases b <;> simp [W.beq] at h; rw [h.1, beqF_eq h.2]
  | .ref n, b, h => by cases b <;> simp [W.beq] at h; rw [h]
  | .ctp xs, b, h => by cases b <;> simp [W.beq] at h; rw [beqL_eq h]
theorem beqL_eq : ∀ {a b : List W}, beqL a b = true → a = b
  | [], b, h => by cases b <;> simp [beqL] at h; rfl
  | x :: xs, b, h => by
    cases b with
    | nil => simp [beqL] at h
    | cons y ys =>
      simp [beqL] at h
      rw [beq_eq h.1, beqL_eq h.2]
theorem beqD_eq : ∀ {a b : List (Ky × W)}, beqD a b = true → a = b
  | [], b, h => by cases b <;> simp [beqD] at h; rfl
  | (k, x) :: xs, b, h => by
    cases b with
    | nil => simp [beqD] at h
    | cons y ys =>
      obtain ⟨l, y⟩ := y
      simp [beqD] at h
      rw [h.1, beq_eq h.2.1, beqD_eq h.2.2]
theorem beqF_eq : ∀ {a b : List (Nat × W)}, beqF a b = true → a = b
  | [], b, h => by cases b <;> simp [beqF] at h; rfl
  | (k, x) :: xs, b, h => by
    cases b with
    | nil => simp [beqF] at h
    | cons y ys =>
      obtain ⟨l, y⟩ := y
      simp [beqF] at h
      rw [h.1, beq_eq h.2.1, beqF_eq h.2.2]
end
/-- the iterator yields the items, as long as the guard holds -/
def JOk (G : Gx) (R : List Addr) (src : Src) (J : L2.It) (s : Sto) (ι : List Addr) (H : Hp) : Prop := ∀ R' s' ι' H', Ext G R s ι H R' s' ι' H' → src.grd s' = true →
  J.stop src.items.length H' ∧ ∀ i x, src.items[i]? = some x → J.go i H' ∧ ∀ v H'', J.yld i H' v H'' → Step G R' s' ι' H' s' ι' H'' ∧ Den G (FzH G R' s' ι' H'') ι' x v
/-- the reading of what is walked -/
def tI (G : Gx) (Wx : WX) (r : Env → M Src) : TI := fun σ H RR => ∃ R s ι ρ, Sim G R s ι H ∧ EnvD G R s ι H ρ σ ∧ Post G Wx σ R s ι H (r ρ s) fun src s' ι' H' => src.grd s' = true → ∀ J, JOk G R src J s' ι' H' → RR J H'
theorem PI.imp {X : Cx} {tg e : PySem.Expr} {t t' : TI} (h : PI X tg e t) (hi : ∀ σ H Q, t' σ H Q → t σ H Q) : PI X tg e t' := ⟨fun pins s σ H Q I q => h.run pins s σ H Q I (hi σ H Q q)⟩
section
variable {G : Gx} {R : List Addr} {s : Sto} {ι : List Addr} {H : Hp}
/-- the items of a list as it stands -/
theorem j_list {src : Src} {a : Addr} (K : PySem.W.Frag) (h : ∀ R' s' ι' H', Ext G R s ι H R' s' ι' H' → src.grd s' = true → ∃ vs, Rd H' a (.lst vs) ∧ DenL G (FzH G R' s' ι' H') ι' src.items vs) : JOk G R src (Itl K a) s ι H := by
  intro R' s' ι' H' T g
  obtain ⟨vs, rd, d⟩ := h R' s' ι' H' T g
  refine ⟨⟨vs, .inl rd, by rw [d.length]; exact Nat.le_refl _⟩, fun i x hx => ?_⟩
  obtain ⟨v, hv, dv⟩ := d.get hx
  refine ⟨⟨vs, v, .inl rd, hv⟩, fun u H'' y => ?_⟩
  obtain ⟨rfl, hy⟩ := y
  have e := hy vs (.inl rd)
  rw [hv] at e
  cases e
  exact ⟨Step.refl T.sim, dv⟩
theorem j_tup {src : Src} {a : Addr} {vs : List V} (K : PySem.W.Frag) (f : FzH G R s ι H a (.tup vs)) (d : DenL G (FzH G R s ι H) ι src.items vs) : JOk G R src (Itt K a) s ι H := by
  intro R' s' ι' H' T g
  have f' := T.frz _ _ f
  have d' := T.denL d
  have sq : SqT K H' a vs := SqT.of f'.2
  refine ⟨⟨vs, sq, by rw [d.length]; exact Nat.le_refl _⟩, fun i x hx => ?_⟩
  obtain ⟨v, hv, dv⟩ := d'.get hx
  refine ⟨⟨vs, v, sq, hv⟩, fun u H'' y => ?_⟩
  obtain ⟨rfl, hy⟩ := y
  have e := hy vs sq
  rw [hv] at e
  cases e
  exact ⟨Step.refl T.sim, dv⟩
theorem j_ctp {src : Src} {a : Addr} {ob : Obj} {vs : List V} (K : PySem.W.Frag) (f : FzH G R s ι H a (.frz ob (.tup vs))) (d : DenL G (FzH G R s ι H) ι src.items vs) : JOk G R src (Itt K a) s ι H := by
  intro R' s' ι' H' T g
  have f' := T.frz _ _ f
  have d' := T.denL d
  have sq : SqT K H' a vs := .inl (.inr ⟨_, f'.2⟩)
  refine ⟨⟨vs, sq, by rw [d.length]; exact Nat.le_refl _⟩, fun i x hx => ?_⟩
  obtain ⟨v, hv, dv⟩ := d'.get hx
  refine ⟨⟨vs, v, sq, hv⟩, fun u H'' y => ?_⟩
  obtain ⟨rfl, hy⟩ := y
  have e := hy vs sq
  rw [hv] at e
  cases e
  exact ⟨Step.refl T.sim, dv⟩
/-- a list, live or frozen, told at each turn -/
theorem live_list (S : Sim G R s ι H) {w : W} {v : V} (d : Den G (FzH G R s ι H) ι w v) {xs : List W} (h : lstOf s w = some xs) : ∃ a, v = .ref a ∧ ∀ R' s' ι' H', Ext G R s ι H R' s' ι' H' → lstOf s' w = some xs → ∃ vs, Rd H' a (.lst vs) ∧ DenL G (FzH G R' s' ι' H') ι' xs vs := by
  obtain ⟨a, vs, rfl, _, _⟩ := lst_den S d h
  refine ⟨a, rfl, fun R' s' ι' H' T hl => ?_⟩
  obtain ⟨b, vs', e, rd, dl⟩ := lst_den T.sim (T.den d) hl
  cases e
  exact ⟨vs', rd, dl⟩
theorem src_grd {w : W} {src : Src} {s s' : Sto} (h : srcW w s = some (src, s')) : src.grd s' = true := by
  cases w with
  | ref n =>
    simp only [srcW] at h
    cases q : s.get n with
    | none => rw [q] at h; cases h
    | some o =>
      rw [q] at h
      cases o with
      | lst xs =>
        cases h
        show (match s.get n with
          | some (.lst ys) => beqL ys xs
          | _ => false) = true
        rw [q]
        exact beqL_refl xs
      | _ => cases h
  | str t => cases h; rfl
  | tup xs => cases h; rfl
  | lst xs => cases h; rfl
  | ctp xs => cases h; rfl
  | _ => cases h
theorem srcL_grd {w : W} {src : Src} {s s' : Sto} (h : srcL w s = some (src, s')) : src.grd s' = true := by
  cases w with
  | ref n =>
    simp only [srcL] at h
    cases q : s.get n with
    | none => rw [q] at h; cases h
    | some o =>
      rw [q] at h
      cases o with
      | lst xs =>
        cases h
        show (match s.get n with
          | some (.lst ys) => beqL ys xs
          | _ => false) = true
        rw [q]
        exact beqL_refl xs
      | _ => cases h
  | lst xs => cases h; rfl
  | _ => cases h
end
section
variable {X : Cx} {G : Gx} {Wx : WX} {tg e a b : PySem.Expr} {ra rb : Env → M W} {pos p : Pos}
/-- a str, a tuple, a list -/
theorem pi_seqW (ha : PE X e (tE G Wx ra)) : PI X tg e (tI G Wx fun ρ => M.bind (ra ρ) fun x => M.op (srcW x)) := by
  refine ⟨fun pins st σ H RR I h => ?_⟩
  obtain ⟨R, s, ι, ρ, S, D, P⟩ := h
  refine thn (ha.run pins st σ H (fun v H1 => ∃ s1 ι1 w, Sim G R s1 ι1 H1 ∧ Den G (FzH G R s1 ι1 H1) ι1 w v ∧ Post G Wx σ R s1 ι1 H1 (M.op (srcW w) s1) fun src s' ι' H' => src.grd s' = true → ∀ J, JOk G R src J s' ι' H' → RR J H') I
    ⟨R, s, ι, ρ, S, D, P.bind.mono fun w s1 ι1 H1 T1 P1 v d => ⟨s1, ι1, w, T1.sim, d, P1⟩⟩) fun v st1 ⟨x, H1, I1, r1, s1, ι1, w, S1, d, P1⟩ => ?_
  obtain ⟨src, s2, e2, K⟩ := P1.op
  have hgrd := src_grd e2
  have viaL : ∀ xs, lstOf s1 w = some xs → s2 = s1 → src.items = xs → (∀ s', src.grd s' = true → lstOf s' w = some xs) → wpAny (model X.prog X.w) X.A (pyIter v) (PIE X pins σ tg RR) X.xe st1 := fun xs hl es ei hg => by
    subst es
    obtain ⟨a, rfl, go⟩ := live_list S1 d hl
    obtain ⟨_, vs, ea, rd, dl⟩ := lst_den S1 d hl
    cases ea
    cases r1
    have J : JOk G R src (Itl X.K a) s2 ι1 H1 := j_list X.K fun R' s' ι' H' T g => by
      rw [ei]
      exact go R' s' ι' H' T (hg s' g)
    obtain ⟨its, rv, p, hz⟩ := I1.list (.inl rd)
    refine wpAny_pyIter_list p.isList ?_
    refine ⟨st1.heap.objs.size, [st1.heap.objs.size], _, _, H1, rfl, I1.kept (t' := st1.toks) fun b o e => Heap.get?_push_of_some _ e, turn_list a _, ⟨_, Heap.get?_push_size _ rfl, rfl, rfl⟩, fun b hb => ?_, K _ _ (Step.refl S1) hgrd _ J⟩
    have e : b = st1.heap.objs.size := by simpa using hb
    subst e
    exact I1.fpOk (Nat.le_refl _) (I1.hok.fresh (Nat.le_refl _))
  cases w with
  | ctp xs =>
    cases e2
    simp only [Den] at d
    obtain ⟨a, ob, vs, rfl, f, dl⟩ := d
    cases r1
    obtain ⟨its, rv, p, hz⟩ := I1.tuple (.inl (.inr ⟨_, f.2⟩))
    refine wpAny_pyIter_tuple (show st1.heap.IsTuple a its.toArray from p) ?_
    refine ⟨st1.heap.objs.size, [st1.heap.objs.size], _, _, H1, rfl, I1.kept (t' := st1.toks) fun b o e => Heap.get?_push_of_some _ e, turn_tuple a _, ⟨_, Heap.get?_push_size _ rfl, rfl, rfl⟩, fun b hb => ?_, K _ _ (Step.refl S1) hgrd _ (j_ctp X.K f dl)⟩
    have e : b = st1.heap.objs.size := by simpa using hb
    subst e
    exact I1.fpOk (Nat.le_refl _) (I1.hok.fresh (Nat.le_refl _))
  | tup xs =>
    cases e2
    simp only [Den] at d
    obtain ⟨a, vs, rfl, f, dl⟩ := d
    cases r1
    obtain ⟨its, rv, p, hz⟩ := I1.tuple (SqT.of f.2)
    refine wpAny_pyIter_tuple (show st1.heap.IsTuple a its.toArray from p) ?_
    refine ⟨st1.heap.objs.size, [st1.heap.objs.size], _, _, H1, rfl, I1.kept (t' := st1.toks) fun b o e => Heap.get?_push_of_some _ e, turn_tuple a _, ⟨_, Heap.get?_push_size _ rfl, rfl, rfl⟩, fun b hb => ?_, K _ _ (Step.refl S1) hgrd _ (j_tup X.K f dl)⟩
    have e : b = st1.heap.objs.size := by simpa using hb
    subst e
    exact I1.fpOk (Nat.le_refl _) (I1.hok.fresh (Nat.le_refl _))
  | lst xs =>
    cases e2
    exact viaL xs rfl rfl rfl fun _ _ => rfl
  | ref n =>
    simp only [srcW] at e2
    cases q : s1.get n with
    | none => rw [q] at e2; cases e2
    | some o =>
      rw [q] at e2
      cases o with
      | lst xs =>
        cases e2
        refine viaL xs (by simp only [lstOf]; rw [q]) rfl rfl fun s' g => ?_
        have g : (match s'.get n with
          | some (.lst ys) => beqL ys xs
          | _ => false) = true := g
        simp only [lstOf]
        split at g
        · rename_i ys hy
          first
            | rw [hy, beqL_eq g]
            | rw [beqL_eq g]
        · cases g
      | _ => cases e2
  | str t =>
    cases e2
    obtain rfl := of_str d
    obtain ⟨tk, rfl⟩ := r1
    have J : JOk G R ⟨t.map fun c => .str [c], fun _ => true⟩ (Its ⟨t.toArray⟩) s1 ι1 H1 := fun R' s' ι' H' T g => by
      refine ⟨?_, fun i x hx => ?_⟩
      · show (⟨t.toArray⟩ : Str).cps.size ≤ _
        simp
      · rw [List.getElem?_map] at hx
        cases q : t[i]? with
        | none => rw [q] at hx; cases hx
        | some c =>
          rw [q] at hx
          cases hx
          refine ⟨?_, fun v H'' y => ?_⟩
          · show i < (⟨t.toArray⟩ : Str).cps.size
            have := (List.getElem?_eq_some_iff.mp q).1
            simpa using this
          · obtain ⟨rfl, c', hc, rfl⟩ := y
            have hc' : t[i]? = some c' := by simpa using hc
            rw [q] at hc'
            cases hc'
            exact ⟨Step.refl T.sim, by simp only [Den]⟩
    have q := K _ _ (Step.refl S1) hgrd _ J
    cases ha : (⟨t.toArray⟩ : Str).cps.all (· < 128)
    · exact wpAny_pyIter_wide ha (pi_one (tk := st1.toks) I1 _ (turn_str _ _ tk "str_iterator" (.inr rfl)) ⟨_, Heap.get?_push_size _ rfl, rfl, rfl⟩ q)
    · exact wpAny_pyIter_ascii ha (pi_one (tk := st1.toks) I1 _ (turn_str _ _ tk "str_ascii_iterator" (.inl rfl)) ⟨_, Heap.get?_push_size _ rfl, rfl, rfl⟩ q)
  | _ => cases e2
/-- ranges -/
theorem range_get : ∀ (n : Nat) (lo : Int) (i : Nat) (x : W), (rangeL lo n)[i]? = some x → i < n ∧ x = .int (lo + i)
  | 0, lo, i, x, h => by simp [rangeL] at h
  | n + 1, lo, 0, x, h => by
    simp [rangeL] at h
    exact ⟨Nat.zero_lt_succ _, by rw [← h]; simp⟩
  | n + 1, lo, i + 1, x, h => by
    simp only [rangeL, List.getElem?_cons_succ] at h
    obtain ⟨h1, h2⟩ := range_get n (lo + 1) i x h
    refine ⟨Nat.succ_lt_succ h1, ?_⟩
    rw [h2]
    congr 1
    omega
theorem range_len : ∀ (n : Nat) (lo : Int), (rangeL lo n).length = n
  | 0, _ => rfl
  | n + 1, lo => by simp [rangeL, range_len n]
theorem j_range {R : List Addr} {s : Sto} {ι : List Addr} {H : Hp} (lo : Int) (n : Nat) : JOk G R ⟨rangeL lo n, fun _ => true⟩ (Itr lo n) s ι H := fun R' s' ι' H' T g => by
  refine ⟨by show n ≤ _; rw [range_len]; exact Nat.le_refl _, fun i x hx => ?_⟩
  obtain ⟨h1, rfl⟩ := range_get n lo i x hx
  refine ⟨h1, fun v H'' y => ?_⟩
  obtain ⟨rfl, rfl⟩ := y
  exact ⟨Step.refl T.sim, den_int⟩
theorem smallR_ok {i : Int} (h : smallR i = true) : -(2 ^ 62) ≤ i ∧ i < 2 ^ 62 := by
  unfold smallR at h
  simpa using h
theorem pi_rng1W (hg : Gl X "range") (hm : X.mg "range" = none) (ha : PE X a (tE G Wx ra)) (hpl : plainX a = true) : PI X tg (.Call (.Name "range" p) [a] [] pos) (tI G Wx fun ρ => M.bind (ra ρ) fun x => match x with
    | .int j => if smallR j then M.ret ⟨rangeL 0 j.toNat, fun _ => true⟩ else M.no
    | _ => M.no) := by
  refine PI.imp (pi_range1 hg hm (pa_cons ha pa_nil (starEach_plain hpl)) (by rw [starEach_plain hpl]; rfl)) fun σ H RR h => ?_
  obtain ⟨R, s, ι, ρ, S, D, P⟩ := h
  refine ⟨R, s, ι, ρ, S, D, P.bind.mono fun x s1 ι1 H1 T1 P1 v1 d1 => ?_⟩
  cases x with
  | int j =>
    obtain rfl := of_int d1
    simp only at P1
    split at P1
    · rename_i hj
      obtain ⟨h1, h2⟩ := smallR_ok hj
      have go := P1.ret T1.sim rfl
      exact ⟨j, rfl, h1, h2, go _ (j_range _ _)⟩
    · exact P1.elim
  | _ => exact P1.elim
theorem pi_rng2W (hg : Gl X "range") (hm : X.mg "range" = none) (ha : PE X a (tE G Wx ra)) (hb : PE X b (tE G Wx rb)) (hpl : plainX a = true) (hpb : plainX b = true) : PI X tg (.Call (.Name "range" p) [a, b] [] pos) (tI G Wx fun ρ => M.bind (ra ρ) fun x => M.bind (rb ρ) fun y => match x, y with
    | .int i, .int j => if smallR i && smallR j then M.ret ⟨rangeL i (j - i).toNat, fun _ => true⟩ else M.no
    | _, _ => M.no) := by
  refine PI.imp (pi_range2 hg hm (pa_cons ha (pa_cons hb pa_nil (starEach_plain hpb)) (starEach_plain hpl)) (by rw [starEach_plain hpl, starEach_plain hpb]; rfl) (by rw [starEach_plain hpb]; rfl)) fun σ H RR h => ?_
  obtain ⟨R, s, ι, ρ, S, D, P⟩ := h
  refine ⟨R, s, ι, ρ, S, D, P.bind.mono fun x s1 ι1 H1 T1 P1 v1 d1 => ?_⟩
  refine ⟨R, s1, ι1, ρ, T1.sim, D.step T1, P1.bind.mono fun y s2 ι2 H2 T2 P2 v2 d2 => ?_⟩
  cases x with
  | int i =>
    obtain rfl := of_int d1
    cases y with
    | int j =>
      obtain rfl := of_int d2
      simp only at P2
      split at P2
      · rename_i hj
        rw [Bool.and_eq_true] at hj
        obtain ⟨h1, h2⟩ := smallR_ok hj.1
        obtain ⟨h3, h4⟩ := smallR_ok hj.2
        have go := P2.ret T2.sim rfl
        exact ⟨i, j, rfl, ⟨h1, h2, h3, h4⟩, go _ (j_range _ _)⟩
      · exact P2.elim
    | _ => exact P2.elim
  | _ => exact P2.elim
/-! enumerate(l) -/
theorem enum_get : ∀ (xs : List W) (k i : Nat) (x : W), (enumL k xs)[i]? = some x → ∃ y, xs[i]? = some y ∧ x = .tup [.int ((k + i : Nat) : Int), y]
  | [], k, i, x, h => by simp [enumL] at h
  | y :: r, k, 0, x, h => by
    simp only [enumL, List.getElem?_cons_zero, Option.some.injEq] at h
    exact ⟨y, rfl, h.symm⟩
  | y :: r, k, i + 1, x, h => by
    simp only [enumL, List.getElem?_cons_succ] at h
    obtain ⟨z, h1, h2⟩ := enum_get r (k + 1) i x h
    refine ⟨z, by simpa using h1, ?_⟩
    rw [h2]
    have e : k + 1 + i = k + (i + 1) := by omega
    rw [e]
theorem enum_len : ∀ (xs : List W) (k : Nat), (enumL k xs).length = xs.length
  | [], _ => rfl
  | y :: r, k => by simp [enumL, enum_len r]
theorem j_enum {R : List Addr} {s : Sto} {ι : List Addr} {H : Hp} {src : Src} {xs : List W} {a : Addr} (K : PySem.W.Frag) (ei : src.items = enumL 0 xs) (h : ∀ R' s' ι' H', Ext G R s ι H R' s' ι' H' → src.grd s' = true → ∃ vs, Rd H' a (.lst vs) ∧ DenL G (FzH G R' s' ι' H') ι' xs vs) : JOk G R src (Ite K a) s ι H := by
  intro R' s' ι' H' T g
  obtain ⟨vs, rd, d⟩ := h R' s' ι' H' T g
  refine ⟨⟨vs, .inl rd, by rw [ei, enum_len, d.length]; exact Nat.le_refl _⟩, fun i x hx => ?_⟩
  rw [ei] at hx
  obtain ⟨y, hy, rfl⟩ := enum_get xs 0 i x hx
  obtain ⟨v, hv, dv⟩ := d.get hy
  refine ⟨⟨vs, v, .inl rd, hv⟩, fun u H'' y' => ?_⟩
  obtain ⟨p, v', rfl, hp, rfl, hv'⟩ := y'
  have e := hv' vs (.inl rd)
  rw [hv] at e
  cases e
  obtain ⟨T2, d2⟩ := new_tup T.sim hp (DenL.cons (den_int (i := ((0 + i : Nat) : Int))) (DenL.cons dv DenL.nil))
  rw [Nat.zero_add] at T2 d2 ⊢
  exact ⟨T2, d2⟩
theorem pi_enumW {elts : List PySem.Expr} {kk : Nat} {tpos : Pos} (hg : Gl X "enumerate") (hm : X.mg "enumerate" = none) (ha : PE X a (tE G Wx ra)) (hpl : plainX a = true) : PI X (.Tuple elts kk tpos) (.Call (.Name "enumerate" p) [a] [] pos) (tI G Wx fun ρ => M.bind (ra ρ) fun x => M.op (srcL x)) := by
  refine PI.imp (pi_enum hg hm (pa_cons ha pa_nil (starEach_plain hpl)) (by rw [starEach_plain hpl]; rfl)) fun σ H RR h => ?_
  obtain ⟨R, s, ι, ρ, S, D, P⟩ := h
  refine ⟨R, s, ι, ρ, S, D, P.bind.mono fun w s1 ι1 H1 T1 P1 v1 d => ?_⟩
  obtain ⟨src, s2, e2, K⟩ := P1.op
  have viaL : ∀ xs, lstOf s1 w = some xs → s2 = s1 → src.items = enumL 0 xs → (∀ s', src.grd s' = true → lstOf s' w = some xs) → ∃ a xs, [v1] = [V.ref a] ∧ SqL X.K H1 a xs ∧ RR (Ite X.K a) H1 := fun xs hl es ei hg => by
    subst es
    obtain ⟨a, rfl, go⟩ := live_list T1.sim d hl
    obtain ⟨_, vs, ea, rd, dl⟩ := lst_den T1.sim d hl
    cases ea
    exact ⟨a, vs, rfl, .inl rd, K _ _ (Step.refl T1.sim) (srcL_grd e2) _ (j_enum X.K ei fun R' s' ι' H' T g => go R' s' ι' H' T (hg s' g))⟩
  cases w with
  | lst xs =>
    cases e2
    exact viaL xs rfl rfl rfl fun _ _ => rfl
  | ref n =>
    simp only [srcL] at e2
    cases q : s1.get n with
    | none => rw [q] at e2; cases e2
    | some o =>
      rw [q] at e2
      cases o with
      | lst xs =>
        cases e2
        refine viaL xs (by simp only [lstOf]; rw [q]) rfl rfl fun s' g => ?_
        have g : (match s'.get n with
          | some (.lst ys) => beqL ys xs
          | _ => false) = true := g
        simp only [lstOf]
        split at g
        · rename_i ys hy
          first
            | rw [hy, beqL_eq g]
            | rw [beqL_eq g]
        · cases g
      | _ => cases e2
  | _ => cases e2
end
end Mn

end

section
set_option Elab.async false
set_option linter.all false
set_option maxRecDepth 100000
set_option maxHeartbeats 2000000
/-! Mini: targets, plain statements. -/
namespace Mn
open PySem PySem.Spec PyProof.Rows L2
/-! ### calm -/
section
variable {G : Gx} {R : List Addr} {Wx Wx' : WX} {σ σ' : L2.St} {s : Sto} {ι : List Addr} {H : Hp} {α β : Type}
theorem calm_bind (m : M α) (f : α → M β) (s : Sto) : M.calm (M.bind m f) s = M.bind (M.calm m) (fun a => M.calm (f a)) s := by
  cases e : m s with
  | none => simp [M.calm, M.bind, e]
  | some p =>
    obtain ⟨q, s'⟩ := p
    cases q <;> simp [M.calm, M.bind, e]
theorem calm_calm (m : M α) (s : Sto) : M.calm (M.calm m) s = M.calm m s := by
  cases e : m s with
  | none => simp [M.calm, e]
  | some p =>
    obtain ⟨q, s'⟩ := p
    cases q <;> simp [M.calm, e]
/-- what is calm asks of no exception -/
theorem Post.calmTo {m : M α} {K : α → Sto → List Addr → Hp → Prop} (h : Post G Wx σ R s ι H (M.calm m s) K) : Post G Wx' σ' R s ι H (m s) K := by
  unfold M.calm at h
  cases e : m s with
  | none => rw [e] at h; exact h.elim
  | some p =>
    obtain ⟨q, s'⟩ := p
    rw [e] at h
    cases q with
    | error _ => exact h.elim
    | ok a => exact h
theorem Post.calmBind {m : M α} {f : α → M β} {K : β → Sto → List Addr → Hp → Prop} (h : Post G Wx σ R s ι H (M.calm (M.bind m f) s) K) :
    Post G Wx' σ' R s ι H (m s) (fun a s' ι' H' => Post G Wx σ R s' ι' H' (M.calm (f a) s') K) := by
  rw [calm_bind] at h
  exact Post.calmTo h.bind
theorem Post.calmAny {m : M α} {K : α → Sto → List Addr → Hp → Prop} (h : Post G Wx σ R s ι H (M.calm m s) K) : Post G Wx' σ' R s ι H (M.calm m s) K := by
  rw [← calm_calm] at h
  exact Post.calmTo h
theorem Post.calmRet {a : α} {K : α → Sto → List Addr → Hp → Prop} (S : Sim G R s ι H) (h : Post G Wx σ R s ι H (M.calm (M.ret a) s) K) : K a s ι H := h ι H (Step.refl S)
end
/-! ### targets -/
theorem EnvD.set {G : Gx} {R : List Addr} {s : Sto} {ι : List Addr} {H : Hp} {ρ : Env} {σ : L2.St} {w : W} {v : V} (D : EnvD G R s ι H ρ σ) (d : Den G (FzH G R s ι H) ι w v) (i : Nat) : EnvD G R s ι H (setE ρ i w) (σ.set i (some v)) := by
  refine ⟨by unfold setE; rw [List.length_set, List.length_set]; exact D.1, fun j u h => ?_⟩
  unfold setE at h
  rw [List.getElem?_set] at h
  by_cases e : i = j
  · subst e
    rw [if_pos rfl] at h
    split at h
    · rename_i hl
      cases h
      refine ⟨v, ?_, d⟩
      rw [List.getElem?_set, if_pos rfl, if_pos (by rw [← D.1]; exact hl)]
    · cases h
  · rw [if_neg e] at h
    obtain ⟨z, h1, h2⟩ := D.2 j u h
    exact ⟨z, by rw [List.getElem?_set, if_neg e]; exact h1, h2⟩
/-- only these slots are written -/
def Keep (vs : List Nat) (σ σ' : L2.St) : Prop := σ'.length = σ.length ∧ ∀ i, i ∉ vs → σ'[i]? = σ[i]?
def tG (G : Gx) (Wx : WX) (sl : List Nat) (g : W → Env → M Env) : TG := fun v σ H Q => ∃ R s ι ρ w, Sim G R s ι H ∧ EnvD G R s ι H ρ σ ∧ Den G (FzH G R s ι H) ι w v ∧
  Post G Wx σ R s ι H (M.calm (g w ρ) s) fun ρ' s' ι' H' => ∀ σ', EnvD G R s' ι' H' ρ' σ' → Keep sl σ σ' → Q σ' H'
def tGs (G : Gx) (Wx : WX) (sl : List Nat) (g : List W → Env → M Env) : TGs := fun vs σ H Q => ∃ R s ι ρ ws, Sim G R s ι H ∧ EnvD G R s ι H ρ σ ∧ DenL G (FzH G R s ι H) ι ws vs ∧
  Post G Wx σ R s ι H (M.calm (g ws ρ) s) fun ρ' s' ι' H' => ∀ σ', EnvD G R s' ι' H' ρ' σ' → Keep sl σ σ' → Q σ' H'
theorem PG.imp {X : Cx} {e : PySem.Expr} {t t' : TG} (h : PG X e t) (hi : ∀ v σ H Q, t' v σ H Q → t v σ H Q) : PG X e t' := ⟨fun pins s σ H v u Q I r q => h.run pins s σ H v u Q I r (hi v σ H Q q)⟩
theorem PGs.imp {X : Cx} {e : List PySem.Expr} {t t' : TGs} (h : PGs X e t) (hi : ∀ v σ H Q, t' v σ H Q → t v σ H Q) : PGs X e t' := ⟨fun pins s σ H v u Q I r q => h.run pins s σ H v u Q I r (hi v σ H Q q)⟩
def tgsLen : Tgs → Nat
  | .nil => 0
  | .cons _ r => tgsLen r + 1
section
variable {X : Cx} {G : Gx} {Wx : WX} {pg : Pg} {a b e : PySem.Expr} {es : List PySem.Expr} {ra rb : Env → M W} {pos : Pos}
theorem pg_varW {i : Nat} {x : Str} (hN : X.N.Nodup) (hi : X.N[i]? = some x) (hx : Loc X.env.scope x) (hf : X.fn x = true ∨ X.env.scope.names.lookup x = some .local) : PG X (.Name x pos) (tG G Wx [i] fun w ρ => M.ret (setE ρ i w)) :=
  PG.imp (pg_name hN hi hx hf) fun v σ H Q ⟨R, s, ι, ρ, w, S, D, d, P⟩ => P.calmRet S _ (D.set d i) ⟨List.length_set, fun j hj => List.getElem?_set_ne fun e => hj (by rw [e]; exact List.mem_singleton_self _)⟩
theorem pgs_nilW : PGs X [] (tGs G Wx [] fun ws ρ => match ws with
    | [] => M.ret ρ
    | _ => M.no) := PGs.imp pgs_nil fun vs σ H Q ⟨R, s, ι, ρ, ws, S, D, d, P⟩ => by
  cases ws with
  | nil =>
    simp only [DenL] at d
    exact ⟨d, P.calmRet S _ D ⟨rfl, fun _ _ => rfl⟩⟩
  | cons w ws => exact P.elim
theorem pgs_consW {g : W → Env → M Env} {gs : List W → Env → M Env} {l1 l2 : List Nat} (h1 : PG X e (tG G Wx l1 g)) (h2 : PGs X es (tGs G Wx l2 gs)) (hp : plainX e = true) : PGs X (e :: es) (tGs G Wx (l1 ++ l2) fun ws ρ => match ws with
    | w :: r => M.bind (g w ρ) fun ρ' => gs r ρ'
    | [] => M.no) := by
  refine PGs.imp (pgs_cons h1 h2 (by cases e <;> first | rfl | (simp [plainX] at hp; done))) fun vs σ H Q ⟨R, s, ι, ρ, ws, S, D, d, P⟩ => ?_
  cases ws with
  | nil => exact P.elim
  | cons w r =>
    simp only [DenL] at d
    obtain ⟨v, vr, rfl, d1, d2⟩ := d
    refine ⟨v, vr, rfl, R, s, ι, ρ, w, S, D, d1, ?_⟩
    rw [calm_bind] at P
    refine P.bind.mono fun ρ' s1 ι1 H1 T1 P1 σ1 D1 K1 => ?_
    exact ⟨R, s1, ι1, ρ', r, T1.sim, D1, T1.denL d2, P1.calmAny.mono fun ρ2 s2 ι2 H2 T2 P2 σ2 D2 K2 => P2 σ2 D2 ⟨K2.1.trans K1.1, fun i hi => (K2.2 i fun h => hi (List.mem_append_right _ h)).trans (K1.2 i fun h => hi (List.mem_append_left _ h))⟩⟩
theorem assignEach_plain {env : PySem.Env} : ∀ {es : List PySem.Expr}, es.all plainX = true → (assignEach es env).length = es.length ∧ (assignEach es env).findIdx? (·.1) = none
  | [], _ => ⟨rfl, rfl⟩
  | e :: es, h => by
    have h1 : plainX e = true ∧ es.all plainX = true := by simpa using h
    obtain ⟨a, b⟩ := assignEach_plain (env := env) h1.2
    have q : assignEach (e :: es) env = (false, assign e env) :: assignEach es env := by cases e <;> first | rfl | (have h2 := h1.1; simp [plainX] at h2; done)
    rw [q]
    refine ⟨by simp [a], ?_⟩
    rw [List.findIdx?_cons]
    simp [b]
theorem pg_tupW {gs : List W → Env → M Env} {k : Nat} {sl : List Nat} (hc : X.calm = true) (h : PGs X es (tGs G Wx sl gs)) (hp : es.all plainX = true) (hl : ∀ ws ρ s r s', gs ws ρ s = some (.ok r, s') → ws.length = es.length) :
    PG X (.Tuple es k pos) (tG G Wx sl fun w ρ => M.bind (fun s => M.of (seqOf s w) s) fun xs => gs xs ρ) := by
  obtain ⟨h1, h2⟩ := assignEach_plain (env := X.env) hp
  refine ⟨fun pins st σ H v u Q I r hw => ?_⟩
  obtain ⟨R, s, ι, ρ, w, S, D, d, P⟩ := hw
  have P1 := Post.calmBind (Wx' := Wx) (σ' := σ) P
  have P1 : Post G Wx σ R s ι H (M.of (seqOf s w) s) fun xs s' ι' H' => Post G Wx σ R s' ι' H' (M.calm (gs xs ρ) s') fun ρ' s' ι' H' => ∀ σ', EnvD G R s' ι' H' ρ' σ' → Keep sl σ σ' → Q σ' H' := P1
  have viaS : ∀ xs, seqOf s w = some xs → Post G Wx σ R s ι H (M.calm (gs xs ρ) s) fun ρ' s' ι' H' => ∀ σ', EnvD G R s' ι' H' ρ' σ' → Keep sl σ σ' → Q σ' H' := fun xs hx => by
    rw [hx] at P1
    exact Post.ret S P1
  cases q : seqOf s w with
  | none => rw [q] at P1; exact P1.elim
  | some xs =>
    have P2 := viaS xs q
    obtain ⟨p, vs, rfl, hq, dl⟩ := seq_den S d q
    have hlen : vs.length = es.length := by
      rw [← dl.length]
      have P3 := P2
      unfold M.calm at P3
      cases e : gs xs ρ s with
      | none => rw [e] at P3; exact P3.elim
      | some z =>
        obtain ⟨z, s'⟩ := z
        rw [e] at P3
        cases z with
        | error _ => exact P3.elim
        | ok r => exact hl _ _ _ _ _ e
    have go : tGs G Wx sl gs vs σ H Q := ⟨R, s, ι, ρ, xs, S, D, dl, P2⟩
    rcases hq with hq | hq
    · exact (pg_lst (n := es.length) hc h h1 h2).run pins st σ H _ u Q I r ⟨p, vs, rfl, .inl hq, hlen, go⟩
    · exact (pg_tup (n := es.length) hc h h1 h2).run pins st σ H _ u Q I r ⟨p, vs, rfl, .inl hq, hlen, go⟩
/-- o[i] = v -/
def rSetW (G : Gx) : TSet := fun o i v H Q => ∃ R s ι a b w s', Sim G R s ι H ∧ Den G (FzH G R s ι H) ι a o ∧ Den G (FzH G R s ι H) ι b i ∧ Den G (FzH G R s ι H) ι w v ∧ stS a b w s = some ((), s') ∧ ∀ ι' H', Step G R s ι H s' ι' H' → Q H'
theorem DenL.set {F : Fz} {ι : List Addr} {w : W} {v : V} (d : Den G F ι w v) : ∀ (j : Nat) {ws : List W} {vs : List V}, DenL G F ι ws vs → DenL G F ι (ws.set j w) (vs.set j v)
  | _, [], vs, h => by simp only [DenL] at h; subst h; exact DenL.nil
  | 0, x :: ws, vs, h => by
    simp only [DenL] at h
    obtain ⟨u, r, rfl, _, h⟩ := h
    exact DenL.cons d h
  | j + 1, x :: ws, vs, h => by
    simp only [DenL] at h
    obtain ⟨u, r, rfl, h1, h⟩ := h
    exact DenL.cons h1 (DenL.set d j h)
theorem setW {k0 : Nat} (hK : X.K = G.K) (hr : L2.Room k0 X.A) : PSet X (rSetW G) := by
  intro pins st σ H o i v ov iv u Q I ro ri rv h
  obtain ⟨R, s, ι, a, b, w, s', S, da, db, dw, e, K⟩ := h
  have un := hr.un
  unfold stS at e
  cases a with
  | ref n =>
    simp only [Den] at da
    obtain ⟨p, hp, rfl⟩ := da
    cases q : s.get n with
    | none => simp only [q] at e; cases e
    | some so =>
      obtain ⟨p', h1, h2, h3⟩ := S.obj n so q
      rw [hp] at h1
      cases h1
      cases so with
      | lst xs =>
        cases b with
        | int k =>
          simp only [q] at e
          obtain ⟨vs, hv, dl⟩ := h3
          have fin : ∀ j, ixN xs.length k = some j → s' = s.set n (.lst (xs.set j w)) → wpAny (model X.prog X.w) X.A (setItem ov iv u) (fun _ s' => ∃ H', Inv X pins σ H' s' ∧ Q H') X.xe st := fun j hj hs' => by
            subst hs'
            refine set_list pins st σ H _ _ v ov iv u Q I ro ri rv ⟨p, vs, k, j, rfl, of_int db, hv, by rw [← dl.length]; exact hj, ?_⟩
            exact K ι _ (Step.set S q hp hv trivial fun F' hF => ⟨vs.set j v, upd_same, DenL.set (dw.mono hF fun _ _ h => h) j (dl.mono hF fun _ _ h => h)⟩)
          by_cases hk : 0 ≤ k
          · rw [if_pos hk] at e
            simp only at e
            split at e
            · rename_i hj
              cases e
              refine fin k.toNat ?_ rfl
              unfold ixN
              rw [if_pos hk, if_pos (by omega)]
            · cases e
          · rw [if_neg hk] at e
            by_cases hk2 : 0 ≤ k + xs.length
            · rw [if_pos hk2] at e
              simp only at e
              split at e
              · rename_i hj
                cases e
                refine fin (k + xs.length).toNat ?_ rfl
                unfold ixN
                rw [if_neg hk, if_pos (by omega)]
              · cases e
            · rw [if_neg hk2] at e
              cases e
        | _ => simp only [q] at e; cases e
      | dct lk kvs =>
        cases lk with
        | true => simp only [q] at e; cases e
        | false =>
          simp only [q] at e
          cases hk : toKy b with
          | none => rw [hk] at e; cases e
          | some ky =>
            rw [hk] at e
            simp only at e
            split at e
            · rename_i ok
              cases e
              obtain ⟨ok, hl⟩ := ok
              obtain ⟨o, ho, dd⟩ := h3
              have ho : H p = some o := by simpa using ho
              have hlen : kvs.length < sizeLine := hl
              obtain rfl : ov = Value.ref p := ro
              have stp : ∀ o', plainO o → (∀ F' : Fz, (∀ a o, FzH G R s ι H a o → F' a o) → DenD G F' ι (putK ky w kvs) o') → Step G R s ι H (s.set n (.dct false (putK ky w kvs))) ι (upd H p o') := fun o' po dn =>
                Step.set S q hp ho po fun F' hF => ⟨o', by simpa using upd_same, dn F' hF⟩
              rcases key_den hk db with ⟨k1, rfl, rfl⟩ | ⟨ks, b', rfl, rfl, hb⟩
              · rcases dd.dk with ⟨q0, rfl, dq⟩ | ⟨q0, rfl, dq⟩
                · refine d_setItem (by omega) I (DPut.k ho (by rw [dq.length]; exact hlen)) ri rv fun st' I' => ⟨_, I', ?_⟩
                  exact K ι _ (stp _ trivial fun F' hF => DenD.ofK (putDK (dw.mono hF fun _ _ h => h) (dq.mono hF fun _ _ h => h)))
                · cases kvs with
                  | cons p0 r0 => exact (kyOk_one ok dq).elim
                  | nil =>
                    simp only [DenDT] at dq
                    subst dq
                    have I1 := inv_flip I (.inr ⟨rfl, rfl⟩) ho
                    refine d_setItem (by omega) I1 (DPut.k (k := k1K k1) upd_same (by simp [sizeLine_eq])) ri rv fun st' I' => ⟨_, I', ?_⟩
                    rw [upd_upd]
                    exact K ι _ (stp _ trivial fun F' hF => DenD.ofK (putDK (q := []) (dw.mono hF fun _ _ h => h) (by simp only [DenDK])))
              · rcases dd.dk with ⟨q0, rfl, dq⟩ | ⟨q0, rfl, dq⟩
                · cases kvs with
                  | cons p0 r0 => exact (kyOk_many ok dq).elim
                  | nil =>
                    simp only [DenDK] at dq
                    subst dq
                    have I1 := inv_flip I (.inl ⟨rfl, rfl⟩) ho
                    have nb : b' ≠ p := fun z => by rw [z, ho] at hb; cases hb
                    refine d_setItem (by omega) I1 (DPut.t (k := ks.map k1K) upd_same ((upd_ne nb).trans hb) (by simp [sizeLine_eq])) ri rv fun st' I' => ⟨_, I', ?_⟩
                    rw [upd_upd]
                    exact K ι _ (stp _ trivial fun F' hF => DenD.ofT (putDT (q := []) (dw.mono hF fun _ _ h => h) (by simp only [DenDT])))
                · refine d_setItem (by omega) I (DPut.t ho hb (by rw [dq.length]; exact hlen)) ri rv fun st' I' => ⟨_, I', ?_⟩
                  exact K ι _ (stp _ trivial fun F' hF => DenD.ofT (putDT (dw.mono hF fun _ _ h => h) (dq.mono hF fun _ _ h => h)))
            · cases e
      | ins c fs => simp only [q] at e; cases e
  | _ => cases e
end
end Mn

end

section
set_option Elab.async false
set_option linter.all false
set_option maxRecDepth 100000
set_option maxHeartbeats 2000000
/-! Mini: statements. -/
namespace Mn
open PySem PySem.Spec PyProof.Rows L2
/-- what is wanted of a statement's outcome -/
def PostO (G : Gx) (Wx : WX) (R : List Addr) (s : Sto) (ι : List Addr) (H : Hp) (Z : Ends) (r : Option (O × Sto)) : Prop := match r with
  | none => False
  | some (.nx ρ, s') => ∀ ι' H' σ', Step G R s ι H s' ι' H' → EnvD G R s' ι' H' ρ σ' → Z.nx σ' H'
  | some (.ct ρ, s') => ∀ ι' H' σ', Step G R s ι H s' ι' H' → EnvD G R s' ι' H' ρ σ' → Z.ct σ' H'
  | some (.bk ρ, s') => ∀ ι' H' σ', Step G R s ι H s' ι' H' → EnvD G R s' ι' H' ρ σ' → Z.bk σ' H'
  | some (.rt w, s') => ∀ ι' H' v, Step G R s ι H s' ι' H' → Den G (FzH G R s' ι' H') ι' w v → Z.rt v H'
  | some (.ex e ρ, s') => ∀ ι' H' cls d σ', Step G R s ι H s' ι' H' → XnD G R s' ι' H' e cls d → EnvD G R s' ι' H' ρ σ' → Wx cls d σ' H'
def tS (G : Gx) (Wx : WX) (m : Env → MO) : TS := fun Z σ H => ∃ R s ι ρ, Sim G R s ι H ∧ EnvD G R s ι H ρ σ ∧ PostO G Wx R s ι H Z (m ρ s)
theorem PS.imp {X : Cx} {st : Stmt} {t t' : TS} (h : PS X st t) (hi : ∀ Z σ H, t' Z σ H → t Z σ H) : PS X st t' := ⟨fun pins s σ H D I q => h.run pins s σ H D I (hi D σ H q)⟩
theorem PSs.imp {X : Cx} {st : List Stmt} {t t' : TS} (h : PSs X st t) (hi : ∀ Z σ H, t' Z σ H → t Z σ H) : PSs X st t' := ⟨fun pins s σ H D I q => h.run pins s σ H D I (hi D σ H q)⟩
section
variable {G : Gx} {R : List Addr} {Wx : WX} {σ : L2.St} {s : Sto} {ι : List Addr} {H : Hp} {Z : Ends} {ρ : Env} {α : Type}
theorem PostO.seq {s1 : Sto} {ι1 : List Addr} {H1 : Hp} {r : Option (O × Sto)} (S : Step G R s ι H s1 ι1 H1) (h : PostO G Wx R s ι H Z r) : PostO G Wx R s1 ι1 H1 Z r := by
  match r, h with
  | none, h => exact h
  | some (.nx ρ, s'), h => exact fun ι' H' σ' S' d => h ι' H' σ' (S.trans S') d
  | some (.ct ρ, s'), h => exact fun ι' H' σ' S' d => h ι' H' σ' (S.trans S') d
  | some (.bk ρ, s'), h => exact fun ι' H' σ' S' d => h ι' H' σ' (S.trans S') d
  | some (.rt w, s'), h => exact fun ι' H' σ' S' d => h ι' H' σ' (S.trans S') d
  | some (.ex e ρ, s'), h => exact fun ι' H' c d σ' S' x q => h ι' H' c d σ' (S.trans S') x q
theorem XnD.step {s1 : Sto} {ι1 : List Addr} {H1 : Hp} {e : Xn} {cls : Value} {d : Option Addr} (x : XnD G R s ι H e cls d) (S : Step G R s ι H s1 ι1 H1) : XnD G R s1 ι1 H1 e cls d := by
  obtain ⟨h1, h2⟩ := x
  refine ⟨h1, ?_⟩
  split at h2
  · exact h2
  · obtain ⟨dd, v, e1, f, q⟩ := h2
    exact ⟨dd, v, e1, S.frz _ _ f, S.den q⟩
theorem PostO.toO {m : M α} {k : α → MO} (D : EnvD G R s ι H ρ σ) (h : PostO G Wx R s ι H Z (toO ρ m k s)) : Post G Wx σ R s ι H (m s) fun a s' ι' H' => PostO G Wx R s' ι' H' Z (k a s') := by
  unfold Mn.toO at h
  cases e : m s with
  | none => rw [e] at h; exact h
  | some p =>
    obtain ⟨q, s'⟩ := p
    rw [e] at h
    cases q with
    | error x => exact fun ι' H' c d S x => h ι' H' c d σ S x (D.step S)
    | ok a => exact fun ι' H' S => PostO.seq S h
theorem PostO.nx (S : Sim G R s ι H) (D : EnvD G R s ι H ρ σ) (h : PostO G Wx R s ι H Z (some (.nx ρ, s))) : Z.nx σ H := h ι H σ (Step.refl S) D
theorem PostO.ct (S : Sim G R s ι H) (D : EnvD G R s ι H ρ σ) (h : PostO G Wx R s ι H Z (some (.ct ρ, s))) : Z.ct σ H := h ι H σ (Step.refl S) D
theorem PostO.bk (S : Sim G R s ι H) (D : EnvD G R s ι H ρ σ) (h : PostO G Wx R s ι H Z (some (.bk ρ, s))) : Z.bk σ H := h ι H σ (Step.refl S) D
theorem PostO.rt {w : W} {v : V} (S : Sim G R s ι H) (d : Den G (FzH G R s ι H) ι w v) (h : PostO G Wx R s ι H Z (some (.rt w, s))) : Z.rt v H := h ι H v (Step.refl S) d
end
section
variable {X : Cx} {G : Gx} {Wx : WX} {pg : Pg} {a b e c : PySem.Expr} {es : List PySem.Expr} {ra rb rc : Env → M W} {pos : Pos} {ma mb : Env → MO} {st : Stmt} {sts : List Stmt}
theorem pss_nilW : PSs X [] (tS G Wx fun ρ s => some (.nx ρ, s)) := PSs.imp pss_nil fun Z σ H ⟨R, s, ι, ρ, S, D, P⟩ => P.nx S D
theorem pss_consW (ha : PS X st (tS G Wx ma)) (hb : PSs X sts (tS G Wx mb)) : PSs X (st :: sts) (tS G Wx fun ρ => MO.seq (ma ρ) mb) := by
  refine PSs.imp (pss_cons ha hb) fun Z σ H ⟨R, s, ι, ρ, S, D, P⟩ => ⟨R, s, ι, ρ, S, D, ?_⟩
  have P : PostO G Wx R s ι H Z (match ma ρ s with
    | some (.nx ρ, s') => mb ρ s'
    | r => r) := P
  cases e : ma ρ s with
  | none => rw [e] at P; exact P
  | some q =>
    obtain ⟨o, s'⟩ := q
    rw [e] at P
    cases o with
    | nx ρ' => exact fun ι' H' σ' S' d => ⟨R, s', ι', ρ', S'.sim, d, PostO.seq S' P⟩
    | _ => exact P
theorem ps_passW : PS X (.Pass pos) (tS G Wx fun ρ s => some (.nx ρ, s)) := PS.imp ps_pass fun Z σ H ⟨R, s, ι, ρ, S, D, P⟩ => P.nx S D
theorem ps_docW {x : Str} {j : Nat} {p1 p2 : Pos} : PS X (.Expr (.Constant (.str x) j p1) p2) (tS G Wx fun ρ s => some (.nx ρ, s)) := PS.imp ps_doc fun Z σ H ⟨R, s, ι, ρ, S, D, P⟩ => P.nx S D
theorem ps_brkW : PS X (.Break pos) (tS G Wx fun ρ s => some (.bk ρ, s)) := PS.imp ps_break fun Z σ H ⟨R, s, ι, ρ, S, D, P⟩ => P.bk S D
theorem ps_cntW : PS X (.Continue pos) (tS G Wx fun ρ s => some (.ct ρ, s)) := PS.imp ps_continue fun Z σ H ⟨R, s, ι, ρ, S, D, P⟩ => P.ct S D
theorem ps_ret0W : PS X (.Return none pos) (tS G Wx fun ρ s => some (.rt .non, s)) := PS.imp ps_retN fun Z σ H ⟨R, s, ι, ρ, S, D, P⟩ => P.rt S den_non
theorem ps_retW (ha : PE X a (tE G Wx ra)) : PS X (.Return (some a) pos) (tS G Wx fun ρ => toO ρ (ra ρ) fun x s => some (.rt x, s)) :=
  PS.imp (ps_ret ha) fun Z σ H ⟨R, s, ι, ρ, S, D, P⟩ => ⟨R, s, ι, ρ, S, D, (P.toO D).mono fun w s1 ι1 H1 T1 P1 v d => P1.rt T1.sim d⟩
theorem ps_exprW (ha : PE X a (tE G Wx ra)) (hs : swapsWith a none pos.line X.env = pure false) : PS X (.Expr a pos) (tS G Wx fun ρ => toO ρ (ra ρ) fun _ s => some (.nx ρ, s)) :=
  PS.imp (ps_expr ha hs) fun Z σ H ⟨R, s, ι, ρ, S, D, P⟩ => ⟨R, s, ι, ρ, S, D, (P.toO D).mono fun w s1 ι1 H1 T1 P1 v d => P1.nx T1.sim (D.step T1)⟩
theorem ps_iffW {bs cs : List Stmt} (hc : PT X c (tT G Wx fun ρ => M.bind (rc ρ) M.tru)) (ha : PSs X bs (tS G Wx ma)) (hb : PSs X cs (tS G Wx mb)) :
    PS X (.If c bs cs pos) (tS G Wx fun ρ => toO ρ (M.bind (rc ρ) M.tru) fun t => if t then ma ρ else mb ρ) := by
  refine PS.imp (ps_if hc ha hb) fun Z σ H ⟨R, s, ι, ρ, S, D, P⟩ => ⟨R, s, ι, ρ, S, D, (P.toO D).mono fun k s1 ι1 H1 T1 P1 => ?_⟩
  cases k with
  | true => exact ⟨R, s1, ι1, ρ, T1.sim, D.step T1, P1⟩
  | false => exact ⟨R, s1, ι1, ρ, T1.sim, D.step T1, P1⟩
theorem asg_imp {sl : List Nat} {g : W → Env → M Env} {Z : Ends} {σ : L2.St} {H : Hp} (h : tS G Wx (fun ρ => toO ρ (ra ρ) fun x => toO ρ (M.calm (g x ρ)) fun ρ' s => some (.nx ρ', s)) Z σ H) : tAsg (tE G Wx ra) (tG G Wx sl g) Z σ H := by
  obtain ⟨R, s, ι, ρ, S, D, P⟩ := h
  refine ⟨R, s, ι, ρ, S, D, (P.toO D).mono fun w s1 ι1 H1 T1 P1 v d => ?_⟩
  exact ⟨R, s1, ι1, ρ, w, T1.sim, D.step T1, d, (P1.toO (D.step T1)).mono fun ρ' s2 ι2 H2 T2 P2 σ' D' _ => P2.nx T2.sim D'⟩
theorem ps_asgW {tg : PySem.Expr} {sl : List Nat} {g : W → Env → M Env} (he : PE X e (tE G Wx ra)) (hg : PG X tg (tG G Wx sl g)) (hs : swapsWithSole [tg] e pos.line X.env = pure false) (hw : swappedStores [tg] e X.env = pure none) (hp : plainX tg = true) :
    PS X (.Assign [tg] e pos) (tS G Wx fun ρ => toO ρ (ra ρ) fun x => toO ρ (M.calm (g x ρ)) fun ρ' s => some (.nx ρ', s)) :=
  PS.imp (ps_asg he hg hs hw (by cases tg <;> first | rfl | (simp [plainX] at hp; done))) fun Z σ H h => asg_imp h
/-- loops -/
theorem ps_whilW {bs : List Stmt} (n : Nat) (hp : PassesOwn (model X.prog X.w) X.A X.env X.xe) (hc : PT X c (tT G Wx fun ρ => M.bind (rc ρ) M.tru)) (hb : PSs X bs (tS G Wx ma)) :
    PS X (.While c bs [] pos) (tS G Wx fun ρ => whiles (fun ρ => M.bind (rc ρ) M.tru) ma n ρ) := by
  refine PS.imp (ps_while hp hc hb) fun Z σ H ⟨R, s, ι, ρ, S, D, P⟩ => ?_
  refine ⟨fun m σ H => ∃ s ι ρ, Sim G R s ι H ∧ EnvD G R s ι H ρ σ ∧ PostO G Wx R s ι H Z (whiles (fun ρ => M.bind (rc ρ) M.tru) ma m ρ s), ⟨n, s, ι, ρ, S, D, P⟩, ?_⟩
  rintro m σ H ⟨s, ι, ρ, S, D, P⟩
  cases m with
  | zero => exact P.elim
  | succ m =>
    have P' : PostO G Wx R s ι H Z (toO ρ (M.bind (rc ρ) M.tru) (fun b => if b then (fun s => match ma ρ s with
      | some (.nx ρ', s') => whiles (fun ρ => M.bind (rc ρ) M.tru) ma m ρ' s'
      | some (.ct ρ', s') => whiles (fun ρ => M.bind (rc ρ) M.tru) ma m ρ' s'
      | some (.bk ρ', s') => some (.nx ρ', s')
      | q => q) else fun s => some (.nx ρ, s)) s) := P
    refine ⟨R, s, ι, ρ, S, D, (P'.toO D).mono fun k s1 ι1 H1 T1 P1 => ?_⟩
    cases k with
    | false => exact P1.nx T1.sim (D.step T1)
    | true =>
      rw [if_pos rfl]
      simp only [if_true] at P1
      refine ⟨fun σ' H' => ∃ s ι ρ, Sim G R s ι H' ∧ EnvD G R s ι H' ρ σ' ∧ PostO G Wx R s ι H' Z (whiles (fun ρ => M.bind (rc ρ) M.tru) ma m ρ s), fun σ' H' q => ⟨m, Nat.lt_succ_self _, q⟩, R, s1, ι1, ρ, T1.sim, D.step T1, ?_⟩
      cases e : ma ρ s1 with
      | none => rw [e] at P1; exact P1.elim
      | some q =>
        obtain ⟨o, s'⟩ := q
        rw [e] at P1
        cases o with
        | nx ρ' => exact fun ι' H' σ' S' d => ⟨s', ι', ρ', S'.sim, d, PostO.seq S' P1⟩
        | ct ρ' => exact fun ι' H' σ' S' d => ⟨s', ι', ρ', S'.sim, d, PostO.seq S' P1⟩
        | bk ρ' => exact P1
        | rt w => exact P1
        | ex x ρ' => exact P1
theorem ps_forW {tg iter : PySem.Expr} {bs : List Stmt} {ri : Env → M Src} {sl : List Nat} {g : W → Env → M Env} (hp : PassesOwn (model X.prog X.w) X.A X.env X.xe) (hc : X.calm = true) (hi : PI X tg iter (tI G Wx ri)) (hg : PG X tg (tG G Wx sl g)) (hb : PSs X bs (tS G Wx ma))
    (hs : ∀ x, foldedSetIterable iter X.env x = pure x) :
    PS X (.For tg iter bs [] pos) (tS G Wx fun ρ => toO ρ (ri ρ) fun src => turns (fun x ρ => toO ρ (M.calm (g x ρ)) fun ρ' => ma ρ') src.grd src.items ρ) := by
  refine PS.imp (ps_for hp hc hi hg hb hs) fun Z σ H ⟨R, s, ι, ρ, S, D, P⟩ => ?_
  refine ⟨R, s, ι, ρ, S, D, (P.toO D).mono fun src s1 ι1 H1 T1 P1 => ?_⟩
  intro hg J hJ
  have D1 := D.step T1
  refine ⟨fun i m σ H => ∃ s ι ρ, m = src.items.length - i ∧ i ≤ src.items.length ∧ Step G R s1 ι1 H1 s ι H ∧ EnvD G R s ι H ρ σ ∧ src.grd s = true ∧ PostO G Wx R s ι H Z (turns (fun x ρ => toO ρ (M.calm (g x ρ)) fun ρ' => ma ρ') src.grd (src.items.drop i) ρ s),
    ⟨_, s1, ι1, ρ, rfl, Nat.zero_le _, Step.refl T1.sim, D1, hg, P1⟩, ?_⟩
  rintro i m σ H ⟨s, ι, ρ, rfl, hi, T, D, hgs, P⟩
  obtain ⟨j1, j2⟩ := hJ R s ι H T.toExt hgs
  by_cases hlt : i < src.items.length
  · have hx : src.items[i]? = some src.items[i] := List.getElem?_eq_getElem hlt
    obtain ⟨j3, j4⟩ := j2 i _ hx
    rw [List.drop_eq_getElem_cons hlt] at P
    generalize src.items[i] = x at P j3 j4
    refine .inr ⟨j3, fun σ' H' => ∃ s ι ρ, Step G R s1 ι1 H1 s ι H' ∧ EnvD G R s ι H' ρ σ' ∧ src.grd s = true ∧ PostO G Wx R s ι H' Z (turns (fun x ρ => toO ρ (M.calm (g x ρ)) fun ρ' => ma ρ') src.grd (src.items.drop (i + 1)) ρ s), fun σ' H' q => ?_, fun v H2 y => ?_⟩
    · obtain ⟨s', ι', ρ', q1, q2, q3, q4⟩ := q
      exact ⟨src.items.length - (i + 1), by omega, s', ι', ρ', rfl, hlt, q1, q2, q3, q4⟩
    · obtain ⟨T2, d⟩ := j4 v H2 y
      have P2 : PostO G Wx R s ι H2 Z (match toO ρ (M.calm (g x ρ)) (fun ρ' => ma ρ') s with
        | some (.nx ρ', s') => if src.grd s' then turns (fun x ρ => toO ρ (M.calm (g x ρ)) fun ρ' => ma ρ') src.grd (src.items.drop (i + 1)) ρ' s' else none
        | some (.ct ρ', s') => if src.grd s' then turns (fun x ρ => toO ρ (M.calm (g x ρ)) fun ρ' => ma ρ') src.grd (src.items.drop (i + 1)) ρ' s' else none
        | some (.bk ρ', s') => some (.nx ρ', s')
        | q => q) := PostO.seq T2 P
      refine ⟨R, s, ι, ρ, x, T2.sim, D.step T2, d, ?_⟩
      unfold Mn.toO at P2
      cases e : M.calm (g x ρ) s with
      | none => rw [e] at P2; exact P2
      | some z =>
        obtain ⟨z, s'⟩ := z
        cases z with
        | error _ =>
          unfold M.calm at e
          split at e <;> cases e
        | ok ρ' =>
          rw [e] at P2
          intro ι3 H3 T3 σ3 D3 _
          refine ⟨R, s', ι3, ρ', T3.sim, D3, ?_⟩
          simp only at P2
          have more : ∀ {ρ4 s4}, (PostO G Wx R s ι H2 Z (if src.grd s4 then turns (fun x ρ => toO ρ (M.calm (g x ρ)) fun ρ' => ma ρ') src.grd (src.items.drop (i + 1)) ρ4 s4 else none)) → ∀ ι4 H4 σ4, Step G R s' ι3 H3 s4 ι4 H4 → EnvD G R s4 ι4 H4 ρ4 σ4 →
              ∃ s ι ρ, Step G R s1 ι1 H1 s ι H4 ∧ EnvD G R s ι H4 ρ σ4 ∧ src.grd s = true ∧ PostO G Wx R s ι H4 Z (turns (fun x ρ => toO ρ (M.calm (g x ρ)) fun ρ' => ma ρ') src.grd (src.items.drop (i + 1)) ρ s) := fun {ρ4 s4} P4 ι4 H4 σ4 T4 D4 => by
            by_cases hg4 : src.grd s4 = true
            · rw [if_pos hg4] at P4
              exact ⟨s4, ι4, ρ4, ((T.trans T2).trans T3).trans T4, D4, hg4, PostO.seq (T3.trans T4) P4⟩
            · rw [if_neg hg4] at P4
              exact P4.elim
          cases e4 : ma ρ' s' with
          | none => rw [e4] at P2; exact P2
          | some z =>
            obtain ⟨z, s4⟩ := z
            rw [e4] at P2
            cases z with
            | nx ρ4 => exact fun ι4 H4 σ4 T4 D4 => more P2 ι4 H4 σ4 T4 D4
            | ct ρ4 => exact fun ι4 H4 σ4 T4 D4 => more P2 ι4 H4 σ4 T4 D4
            | bk ρ4 => exact PostO.seq (Z := { nx := Z.nx, rt := Z.rt, bk := Z.nx, ct := Z.ct }) T3 (show PostO G Wx R s ι H2 { nx := Z.nx, rt := Z.rt, bk := Z.nx, ct := Z.ct } (some (.bk ρ4, s4)) from P2)
            | rt w => exact PostO.seq (Z := Z) T3 P2
            | ex x ρ4 => exact PostO.seq (Z := Z) T3 P2
  · have hi' : i = src.items.length := by omega
    subst hi'
    refine .inl ⟨j1, ?_⟩
    rw [List.drop_length] at P
    exact PostO.nx T.sim D P
end
end Mn

end

section
set_option Elab.async false
set_option linter.all false
set_option maxRecDepth 100000
set_option maxHeartbeats 2000000
/-! Mini: views of dicts, locks. -/
namespace Mn
open PySem PySem.Spec PyProof.Rows L2
section
variable {X : Cx} {pins : List (Addr × Obj)} {σ : L2.St} {H : Hp} {s : Shared} {d : Addr} {o : Obj}
theorem frzT2 {kvs : List (List L2.Key × V)} (I : Inv X pins σ H s) (h : H d = some (.frz o (.dT kvs))) :
    (d == sysModules) = false ∧ s.heap.get? d = some o ∧ o.ExactDict ∧ ∃ (es : Array DictEntry) (ep : Nat), o.data = .dict es ep ∧ es.size = kvs.length ∧
      ∀ (i : Nat) (k : List L2.Key) (v : V), kvs[i]? = some (k, v) → ∃ (hi : i < es.size) (q : Addr), es[i].key = .ref q ∧ H q = some (.tup (k.map kV)) ∧ RelV v es[i].val := by
  obtain ⟨hd, z, hs, xs, pr, o', es, ep, ho, hx, hdt, he, _⟩ := I.hok d _ h
  rw [hd] at ho
  cases ho
  have l1 : es.size = xs.length := size_of_entries he
  have l2 : kvs.length = xs.length := Paired.length pr
  refine ⟨hs, hd, hx, es, ep, hdt, by omega, fun i k v e => ?_⟩
  obtain ⟨b, hb, e1, e2, e3⟩ := paired_get pr e
  have q := entry_at he i
  rw [hb] at q
  have hi : i < es.size := by
    rcases Nat.lt_or_ge i es.size with h | h
    · exact h
    · rw [Array.getElem?_eq_none h] at q; cases q
  rw [Array.getElem?_eq_getElem hi] at q
  have q' := Option.some.inj q
  exact ⟨hi, b.2.1, by rw [q']; rfl, e2, by rw [q']; exact e3⟩
end
/-- the values of a locked dict with tuple keys -/
def ItdT (d : Addr) (o : Obj) (kvs : List (List L2.Key × V)) : L2.It :=
  ⟨fun i H => H d = some (.frz o (.dT kvs)) ∧ i < kvs.length, fun i H x H' => H' = H ∧ ∃ k, kvs[i]? = some (k, x), fun i H => H d = some (.frz o (.dT kvs)) ∧ kvs.length ≤ i⟩
/-- the pairs -/
def ItiT (d : Addr) (o : Obj) (kvs : List (List L2.Key × V)) : L2.It :=
  ⟨fun i H => H d = some (.frz o (.dT kvs)) ∧ i < kvs.length, fun i H x H' => ∃ (T q : Addr) (k : List L2.Key) (v : V), kvs[i]? = some (k, v) ∧ x = .ref T ∧ H q = some (.tup (k.map kV)) ∧ H T = none ∧ H' = upd H T (.tup [.ref q, v]),
    fun i H => H d = some (.frz o (.dT kvs)) ∧ kvs.length ≤ i⟩
section
variable {P : Program} {w : World} {K : PySem.W.Frag} {tg : PySem.Expr} {d : Addr} {o : Obj} {es : Array DictEntry} {ep : Nat}
theorem turn_valsT {kvs : List (List L2.Key × V)} (it : Addr) (hod : o.data = .dict es ep) : Turn P w K tg (ItdT d o kvs) [it] it (fun i h => h.IsValIter it d i kvs.length ep) where
  mem := by simp
  obj := fun i h st b hb => by
    have e : b = it := by simpa using hb
    subst e
    obtain ⟨oi, e, c, dd⟩ := st
    exact ⟨oi, e, fun v z => by rw [dd] at z; cases z⟩
  keep := fun i h h' st k => st.at fun oi e => k it (by simp) oi e
  item := by
    intro X hP hw hK hc i pins s σ H E I hf st hg
    subst hP hw hK
    obtain ⟨hd, hi⟩ := hg
    obtain ⟨f0, f1, f2, f3, f4, f5⟩ := hf it (by simp)
    obtain ⟨hs, hgd, hx, es', ep', hdt, hsz, ent⟩ := frzT2 I hd
    obtain ⟨rfl, rfl⟩ := dict_ep hod hdt
    obtain ⟨⟨k, v⟩, hkv⟩ : ∃ p, kvs[i]? = some p := ⟨kvs[i], List.getElem?_eq_getElem hi⟩
    obtain ⟨hi2, q, hkey, hq, rv⟩ := ent i k v hkv
    rw [← hsz] at st
    refine wpAny_pyNext_values_item_raw st ⟨o, hgd, hx, hdt⟩ hi2 fun h' st' sb => ?_
    have I1 : Inv X pins σ H { s with heap := h' } := I.turned (t' := s.toks) (fun b ob hb e => (sb.2 b hb).trans e) f0 f1 f3 f4 f5
    obtain ⟨oi, e, c, dd⟩ := id st'
    refine ⟨_, rfl, go_of (s := { s with heap := h' }) e c dd (by decide) ⟨v, H, I1, rv, ⟨rfl, k, hkv⟩, ?_, fun b hb => (hf b hb).1⟩⟩
    show h'.IsValIter it d (i + 1) kvs.length _
    rw [← hsz]
    exact st'
  done := by
    intro X hP hw hK hc i pins s σ H E I hf st hg
    subst hP hw hK
    obtain ⟨hd, hi⟩ := hg
    obtain ⟨f0, f1, f2, f3, f4, f5⟩ := hf it (by simp)
    obtain ⟨hs, hgd, hx, es', ep', hdt, hsz, ent⟩ := frzT2 I hd
    obtain ⟨rfl, rfl⟩ := dict_ep hod hdt
    rw [← hsz] at st hi
    exact wpAny_pyNext_values_end_raw (I.ok.hd hc) st ⟨o, hgd, hx, hdt⟩ hi fun h' eb => ⟨rfl, I.turned (t' := s.toks) (fun b ob hb e => eb b ob hb e) f0 f1 f3 f4 f5⟩
  self := fun A i s Q E st h => wpAny_pyIter_valiter st h
theorem turn_itemsT {kvs : List (List L2.Key × V)} {elts : List PySem.Expr} {kk : Nat} {tpos : Pos} (it : Addr) (hod : o.data = .dict es ep) :
    Turn P w K (.Tuple elts kk tpos) (ItiT d o kvs) [it] it (fun i h => ∃ ok ov, IsItemIter h it d i kvs.length ep ok ov) where
  mem := by simp
  obj := fun i h st b hb => by
    have e : b = it := by simpa using hb
    subst e
    obtain ⟨ok, ov, e⟩ := st
    exact ⟨_, e, fun v z => nomatch z⟩
  keep := fun i h h' st k => let ⟨ok, ov, e⟩ := st; ⟨ok, ov, k it (by simp) _ e⟩
  item := by
    intro X hP hw hK hc i pins s σ H E I hf st hg
    subst hP hw hK
    obtain ⟨hd, hi⟩ := hg
    obtain ⟨hs, hgd, hx, es', ep', hdt, hsz, ent⟩ := frzT2 I hd
    obtain ⟨rfl, rfl⟩ := dict_ep hod hdt
    obtain ⟨⟨k, v⟩, hkv⟩ : ∃ p, kvs[i]? = some p := ⟨kvs[i], List.getElem?_eq_getElem hi⟩
    obtain ⟨hi2, q, hkey, hq, rv⟩ := ent i k v hkv
    obtain ⟨ok, ov, he⟩ := st
    rw [← hsz] at he
    have hlt : it < s.heap.objs.size := Heap.lt_size he
    refine wpAny_pyNext_items_item_raw he ⟨o, hgd, hx, hdt⟩ hi2 fun h' ho hT hz hk => ?_
    refine ⟨_, rfl, wpAny_letOwnedTupleGo_items (s := { s with heap := h' }) ho fun h'' he' sb => ?_⟩
    have hT2 : h''.get? s.heap.objs.size = some { cls := .type "tuple", data := .seq #[es'[i].key, es'[i].val] } := (sb.2 _ (Nat.ne_of_gt hlt)).trans hT
    have rk : RelV (.ref q) es'[i].key := by rw [hkey]; exact rfl
    have new : ObjOk X.prog X.w (upd H s.heap.objs.size (.tup [.ref q, v])) h'' s.heap.objs.size (.tup [.ref q, v]) :=
      ⟨by show 2 ≤ sizeLine; decide, [es'[i].key, es'[i].val], .cons rk (.cons rv .nil), ⟨_, hT2, rfl, _, rfl⟩⟩
    have I1 : Inv X pins σ (upd H s.heap.objs.size (.tup [.ref q, v])) { s with heap := h'' } :=
      I.turnedNew (t' := s.toks) (ch := [it]) (fun b ob hb e => (sb.2 b (by simpa using hb)).trans (hk b ob (by simpa using hb) e)) hf (Nat.le_refl _) new
    refine ⟨.ref s.heap.objs.size, _, I1, rfl, ⟨_, q, k, v, hkv, rfl, hq, I.hok.fresh (Nat.le_refl _), rfl⟩, ⟨es'[i].key, es'[i].val, ?_⟩, fun b hb => ?_⟩
    · rw [← hsz]; exact he'
    · have e : b = it := by simpa using hb
      rw [e, upd_ne (Nat.ne_of_lt hlt)]
      exact (hf it (by simp)).1
  done := by
    intro X hP hw hK hc i pins s σ H E I hf st hg
    subst hP hw hK
    obtain ⟨hd, hi⟩ := hg
    obtain ⟨f0, f1, f2, f3, f4, f5⟩ := hf it (by simp)
    obtain ⟨hs, hgd, hx, es', ep', hdt, hsz, ent⟩ := frzT2 I hd
    obtain ⟨rfl, rfl⟩ := dict_ep hod hdt
    obtain ⟨ok, ov, he⟩ := st
    rw [← hsz] at he hi
    exact wpAny_pyNext_items_end_raw (I.ok.hd hc) he ⟨o, hgd, hx, hdt⟩ hi fun h' eb => ⟨rfl, I.turned (t' := s.toks) (fun b ob hb e => eb b ob hb e) f0 f1 f3 f4 f5⟩
  self := fun A i s Q E st h => let ⟨_, _, e⟩ := st; PySem.W.kcp_self e h
end
def iVals2 (td : TE) : TI := fun σ H R => td σ H fun x H1 => ∃ d o, x = .ref d ∧ ((∃ kvs, H1 d = some (.frz o (.dK kvs)) ∧ R (Itd d o kvs) H1) ∨ ∃ kvs, H1 d = some (.frz o (.dT kvs)) ∧ R (ItdT d o kvs) H1)
def iItems2 (td : TE) : TI := fun σ H R => td σ H fun x H1 => ∃ d o, x = .ref d ∧ ((∃ kvs, H1 d = some (.frz o (.dK kvs)) ∧ R (Iti d o kvs) H1) ∨ ∃ kvs, H1 d = some (.frz o (.dT kvs)) ∧ R (ItiT d o kvs) H1)
section
variable {X : Cx} {tg e : PySem.Expr} {td : TE} {apos cpos : Pos}
theorem frz_raw {pins : List (Addr × Obj)} {σ : L2.St} {H : Hp} {s : Shared} {d : Addr} {o : Obj} (I : Inv X pins σ H s) (h : (∃ kvs, H d = some (.frz o (.dK kvs))) ∨ ∃ kvs, H d = some (.frz o (.dT kvs))) :
    (d == sysModules) = false ∧ ∃ es ep, s.heap.DictRaw d es ep := by
  rcases h with ⟨kvs, h⟩ | ⟨kvs, h⟩
  · obtain ⟨hs, hgd, hx, es, ep, vs, hdt, hsz, kv, hm⟩ := I.frzK h
    exact ⟨hs, es, ep, o, hgd, hx, hdt⟩
  · obtain ⟨hs, hgd, hx, es, ep, hdt, hsz, ent⟩ := frzT2 I h
    exact ⟨hs, es, ep, o, hgd, hx, hdt⟩
theorem raw_noDict {h : Heap} {d : Addr} {es : Array DictEntry} {ep : Nat} (x : h.DictRaw d es ep) : ∀ b, Value.ref d = .ref b → ∃ ob, h.get? b = some ob ∧ ob.dict = none := fun b e => by
  cases e
  obtain ⟨o, ho, hc, _⟩ := x
  exact ⟨o, ho, hc.2.1⟩
theorem pi_values2 (he : PE X e td) (hbase : attributeBase e "values" X.env (eval e X.env) = eval e X.env) (hline : (apos.endLine == cpos.line) = true) : PI X tg (.Call (.Attribute e "values" apos) [] [] cpos) (iVals2 td) := by
  refine ⟨fun pins s σ H R I h => ?_⟩
  refine wpAny_Call_method (T := "dict") (id := "dict.values") hbase rfl hline F.plainAttrs_dict F.slot_dict_values F.type_dict_values (thn (he.run pins s σ H _ I h) fun u s1 ⟨x, H1, I1, rx, d, o, ex, q⟩ => ?_)
  subst ex
  obtain rfl : u = Value.ref d := rx
  obtain ⟨hs, es, ep, hm⟩ := frz_raw I1 (q.elim (fun ⟨kvs, h, _⟩ => .inl ⟨kvs, h⟩) fun ⟨kvs, h, _⟩ => .inr ⟨kvs, h⟩)
  refine ⟨hm.typeIs, raw_noDict hm, ?_⟩
  have I2 : Inv X pins σ H1 { s1 with heap := s1.heap.push { cls := .type "dict_values", data := .fields #[.ref d] } } := I1.kept (t' := s1.toks) fun b ob q => Heap.get?_push_of_some _ q
  have hm2 : (s1.heap.push { cls := .type "dict_values", data := .fields #[.ref d] }).DictRaw d es ep := hm.at fun o e => Heap.get?_push_of_some _ e
  have fin : wpAny (model X.prog X.w) X.A (pyIter (.ref s1.heap.objs.size)) (PIE X pins σ tg R) X.xe { s1 with heap := s1.heap.push { cls := .type "dict_values", data := .fields #[.ref d] } } := by
    refine wpAny_pyIter_values_raw (d := d) ⟨_, Heap.get?_push_size _ rfl, rfl, rfl⟩ hm2 ?_
    obtain ⟨o', ho', hx', hd'⟩ := id hm
    rcases q with ⟨kvs, h, q⟩ | ⟨kvs, h, q⟩
    · obtain ⟨_, hgd, hx, es2, ep2, vs, hdt, hsz, kv, _⟩ := I1.frzK h
      rw [hgd] at ho'
      cases ho'
      obtain ⟨rfl, rfl⟩ := dict_ep hdt hd'
      refine pi_one (tk := s1.toks) I2 _ (turn_vals _ hdt) ⟨_, Heap.get?_push_size _ rfl, rfl, ?_⟩ q
      rw [← hsz] <;> rfl
    · obtain ⟨_, hgd, hx, es2, ep2, hdt, hsz, ent⟩ := frzT2 I1 h
      rw [hgd] at ho'
      cases ho'
      obtain ⟨rfl, rfl⟩ := dict_ep hdt hd'
      refine pi_one (tk := s1.toks) I2 _ (turn_valsT _ hdt) ⟨_, Heap.get?_push_size _ rfl, rfl, ?_⟩ q
      rw [← hsz] <;> rfl
  show wpAny _ _ (callWith cpos (.builtin "dict.values") [.ref d] [] []) _ X.xe s1
  exact method_meetsIn F.slot_dict_values F.entry_dict_values rfl (PySem.evalArgs_none ⟨rfl, hm.typeIs, F.args_dict_values_1 _, _, meets_dict_values_raw d hs, ⟨es, ep, hm⟩, fin⟩)
theorem pi_items2 {elts : List PySem.Expr} {kk : Nat} {tpos : Pos} (he : PE X e td) (hbase : attributeBase e "items" X.env (eval e X.env) = eval e X.env) (hline : (apos.endLine == cpos.line) = true) :
    PI X (.Tuple elts kk tpos) (.Call (.Attribute e "items" apos) [] [] cpos) (iItems2 td) := by
  refine ⟨fun pins s σ H R I h => ?_⟩
  refine wpAny_Call_method (T := "dict") (id := "dict.items") hbase rfl hline F.plainAttrs_dict F.slot_dict_items F.type_dict_items (thn (he.run pins s σ H _ I h) fun u s1 ⟨x, H1, I1, rx, d, o, ex, q⟩ => ?_)
  subst ex
  obtain rfl : u = Value.ref d := rx
  obtain ⟨hs, es, ep, hm⟩ := frz_raw I1 (q.elim (fun ⟨kvs, h, _⟩ => .inl ⟨kvs, h⟩) fun ⟨kvs, h, _⟩ => .inr ⟨kvs, h⟩)
  refine ⟨hm.typeIs, raw_noDict hm, ?_⟩
  have I2 : Inv X pins σ H1 { s1 with heap := s1.heap.push { cls := .type "dict_items", data := .fields #[.ref d] } } := I1.kept (t' := s1.toks) fun b ob q => Heap.get?_push_of_some _ q
  have hm2 : (s1.heap.push { cls := .type "dict_items", data := .fields #[.ref d] }).DictRaw d es ep := hm.at fun o e => Heap.get?_push_of_some _ e
  have fin : wpAny (model X.prog X.w) X.A (pyIter (.ref s1.heap.objs.size)) (PIE X pins σ (.Tuple elts kk tpos) R) X.xe { s1 with heap := s1.heap.push { cls := .type "dict_items", data := .fields #[.ref d] } } := by
    refine wpAny_pyIter_items_raw (d := d) ⟨_, Heap.get?_push_size _ rfl, rfl, rfl⟩ hm2 ?_
    obtain ⟨o', ho', hx', hd'⟩ := id hm
    rcases q with ⟨kvs, h, q⟩ | ⟨kvs, h, q⟩
    · obtain ⟨_, hgd, hx, es2, ep2, vs, hdt, hsz, kv, _⟩ := I1.frzK h
      rw [hgd] at ho'
      cases ho'
      obtain ⟨rfl, rfl⟩ := dict_ep hdt hd'
      refine pi_one (tk := s1.toks) I2 _ (turn_items _ hdt) ⟨.none, .none, ?_⟩ q
      rw [← hsz]
      exact Heap.get?_push_size _ rfl
    · obtain ⟨_, hgd, hx, es2, ep2, hdt, hsz, ent⟩ := frzT2 I1 h
      rw [hgd] at ho'
      cases ho'
      obtain ⟨rfl, rfl⟩ := dict_ep hdt hd'
      refine pi_one (tk := s1.toks) I2 _ (turn_itemsT _ hdt) ⟨.none, .none, ?_⟩ q
      rw [← hsz]
      exact Heap.get?_push_size _ rfl
  show wpAny _ _ (callWith cpos (.builtin "dict.items") [.ref d] [] []) _ X.xe s1
  exact method_meetsIn F.slot_dict_items F.entry_dict_items rfl (PySem.evalArgs_none ⟨rfl, hm.typeIs, F.args_dict_items_1 _, _, meets_dict_items_raw d hs, ⟨es, ep, hm⟩, fin⟩)
end
end Mn

end

section
set_option Elab.async false
set_option linter.all false
set_option maxRecDepth 100000
set_option maxHeartbeats 2000000
/-! Mini: views and locks as rules. -/
namespace Mn
open PySem PySem.Spec PyProof.Rows L2
section
variable {G : Gx} {F : Fz} {ι : List Addr}
theorem DenDK.get : ∀ {kvs : List (Ky × W)} {q : List (L2.Key × V)} {i : Nat} {p : Ky × W}, DenDK G F ι kvs q → kvs[i]? = some p → ∃ k v, p.1 = .one k ∧ q[i]? = some (k1K k, v) ∧ Den G F ι p.2 v
  | [], q, i, p, d, h => by simp at h
  | (.many ks, x) :: r, q, i, p, d, h => by simp only [DenDK] at d
  | (.one k, x) :: r, q, 0, p, d, h => by
    simp only [DenDK] at d
    obtain ⟨v, z, rfl, d1, d2⟩ := d
    simp at h
    subst h
    exact ⟨k, v, rfl, rfl, d1⟩
  | (.one k, x) :: r, q, i + 1, p, d, h => by
    simp only [DenDK] at d
    obtain ⟨v, z, rfl, d1, d2⟩ := d
    simpa using DenDK.get (i := i) d2 (by simpa using h)
theorem DenDT.get : ∀ {kvs : List (Ky × W)} {q : List (List L2.Key × V)} {i : Nat} {p : Ky × W}, DenDT G F ι kvs q → kvs[i]? = some p → ∃ ks v, p.1 = .many ks ∧ q[i]? = some (ks.map k1K, v) ∧ Den G F ι p.2 v
  | [], q, i, p, d, h => by simp at h
  | (.one ks, x) :: r, q, i, p, d, h => by simp only [DenDT] at d
  | (.many k, x) :: r, q, 0, p, d, h => by
    simp only [DenDT] at d
    obtain ⟨v, z, rfl, d1, d2⟩ := d
    simp at h
    subst h
    exact ⟨k, v, rfl, rfl, d1⟩
  | (.many k, x) :: r, q, i + 1, p, d, h => by
    simp only [DenDT] at d
    obtain ⟨v, z, rfl, d1, d2⟩ := d
    simpa using DenDT.get (i := i) d2 (by simpa using h)
theorem den_k1 (k : K1) : Den G F ι (k1W k) (k1V k) := by
  cases k with
  | int i => exact den_int
  | str t => exact den_str
theorem den_k1s : ∀ ks : List K1, DenL G F ι (ks.map k1W) (ks.map k1V)
  | [] => DenL.nil
  | k :: r => DenL.cons (den_k1 k) (den_k1s r)
theorem kV_map (ks : List K1) : (ks.map k1K).map kV = ks.map k1V := by
  rw [List.map_map]
  exact List.map_congr_left fun k _ => kV_k1K k
end
section
variable {G : Gx} {R : List Addr} {s : Sto} {ι : List Addr} {H : Hp}
/-- a key's own tuple -/
theorem den_key (S : Sim G R s ι H) {q : Addr} {ks : List K1} (h : H q = some (.tup ((ks.map k1K).map kV))) : Den G (FzH G R s ι H) ι (.tup (ks.map k1W)) (.ref q) := by
  rw [kV_map] at h
  simp only [Den]
  exact ⟨q, _, rfl, FzH.tup S h, den_k1s ks⟩
/-- the view of a locked dict: what it yields -/
theorem vw_den (S : Sim G R s ι H) {f : List (Ky × W) → List W} {w : W} {v : V} (d : Den G (FzH G R s ι H) ι w v) {src : Src} {s' : Sto} (h : vwW f w s = some (src, s')) :
    ∃ a kvs o ob, v = .ref a ∧ s' = s ∧ src.items = f kvs ∧ src.grd s = true ∧ H a = some (.frz ob o) ∧ DenD G (FzH G R s ι H) ι kvs o := by
  cases w with
  | ref n =>
    simp only [Den] at d
    obtain ⟨a, ha, rfl⟩ := d
    simp only [vwW] at h
    cases q : s.get n with
    | none => rw [q] at h; cases h
    | some so =>
      rw [q] at h
      cases so with
      | dct lk kvs =>
        cases lk with
        | false => cases h
        | true =>
          cases h
          obtain ⟨b, h1, _, o, h3, h4⟩ := S.obj n _ q
          rw [ha] at h1
          cases h1
          rw [if_pos rfl] at h3
          obtain ⟨ob, h3⟩ := h3
          refine ⟨a, kvs, o, ob, rfl, rfl, rfl, ?_, h3, h4⟩
          show (match s.get n with
            | some (.dct true q) => beqD q kvs
            | _ => false) = true
          rw [q]
          exact beqD_refl kvs
      | _ => cases h
  | _ => cases h
theorem map_get {α β : Type} {f : α → β} {l : List α} {i : Nat} {x : β} (h : (l.map f)[i]? = some x) : ∃ p, l[i]? = some p ∧ x = f p := by
  rw [List.getElem?_map] at h
  cases q : l[i]? with
  | none => rw [q] at h; cases h
  | some p => rw [q] at h; cases h; exact ⟨p, rfl, rfl⟩
theorem lt_of_get {α : Type} {l : List α} {i : Nat} {x : α} (h : l[i]? = some x) : i < l.length := (List.getElem?_eq_some_iff.mp h).1
theorem j_keys {src : Src} {a : Addr} {ob : Obj} {kvs : List (Ky × W)} {q : List (L2.Key × V)} (ei : src.items = keysV kvs) (h : H a = some (.frz ob (.dK q))) (d : DenDK G (FzH G R s ι H) ι kvs q) : JOk G R src (Itk a ob q) s ι H := by
  intro R' s' ι' H' T g
  have h' := T.lkd _ _ _ h
  refine ⟨⟨h', by rw [ei, d.length]; simp [keysV]⟩, fun i x hx => ?_⟩
  rw [ei] at hx
  obtain ⟨p, hp, rfl⟩ := map_get hx
  obtain ⟨k, v, e, hq, dv⟩ := d.get hp
  refine ⟨⟨h', lt_of_get hq⟩, fun u H'' y => ?_⟩
  obtain ⟨rfl, k', v', hk, rfl⟩ := y
  rw [hq] at hk
  cases hk
  rw [e, kV_k1K]
  exact ⟨Step.refl T.sim, den_k1 k⟩
theorem j_keysT {src : Src} {a : Addr} {ob : Obj} {kvs : List (Ky × W)} {q : List (List L2.Key × V)} (ei : src.items = keysV kvs) (h : H a = some (.frz ob (.dT q))) (d : DenDT G (FzH G R s ι H) ι kvs q) : JOk G R src (Itkt a ob q) s ι H := by
  intro R' s' ι' H' T g
  have h' := T.lkd _ _ _ h
  refine ⟨⟨h', by rw [ei, d.length]; simp [keysV]⟩, fun i x hx => ?_⟩
  rw [ei] at hx
  obtain ⟨p, hp, rfl⟩ := map_get hx
  obtain ⟨ks, v, e, hq, dv⟩ := d.get hp
  refine ⟨⟨h', lt_of_get hq⟩, fun u H'' y => ?_⟩
  obtain ⟨rfl, k', v', b, hk, rfl, hb⟩ := y
  rw [hq] at hk
  cases hk
  rw [e]
  exact ⟨Step.refl T.sim, den_key T.sim hb⟩
theorem j_vals {src : Src} {a : Addr} {ob : Obj} {kvs : List (Ky × W)} {q : List (L2.Key × V)} (ei : src.items = valsV kvs) (h : H a = some (.frz ob (.dK q))) (d : DenDK G (FzH G R s ι H) ι kvs q) : JOk G R src (Itd a ob q) s ι H := by
  intro R' s' ι' H' T g
  have h' := T.lkd _ _ _ h
  refine ⟨⟨h', by rw [ei, d.length]; simp [valsV]⟩, fun i x hx => ?_⟩
  rw [ei] at hx
  obtain ⟨p, hp, rfl⟩ := map_get hx
  obtain ⟨k, v, e, hq, dv⟩ := d.get hp
  refine ⟨⟨h', lt_of_get hq⟩, fun u H'' y => ?_⟩
  obtain ⟨rfl, k', hk⟩ := y
  rw [hq] at hk
  cases hk
  exact ⟨Step.refl T.sim, T.den dv⟩
theorem j_valsT {src : Src} {a : Addr} {ob : Obj} {kvs : List (Ky × W)} {q : List (List L2.Key × V)} (ei : src.items = valsV kvs) (h : H a = some (.frz ob (.dT q))) (d : DenDT G (FzH G R s ι H) ι kvs q) : JOk G R src (ItdT a ob q) s ι H := by
  intro R' s' ι' H' T g
  have h' := T.lkd _ _ _ h
  refine ⟨⟨h', by rw [ei, d.length]; simp [valsV]⟩, fun i x hx => ?_⟩
  rw [ei] at hx
  obtain ⟨p, hp, rfl⟩ := map_get hx
  obtain ⟨k, v, e, hq, dv⟩ := d.get hp
  refine ⟨⟨h', lt_of_get hq⟩, fun u H'' y => ?_⟩
  obtain ⟨rfl, k', hk⟩ := y
  rw [hq] at hk
  cases hk
  exact ⟨Step.refl T.sim, T.den dv⟩
theorem j_items {src : Src} {a : Addr} {ob : Obj} {kvs : List (Ky × W)} {q : List (L2.Key × V)} (ei : src.items = itemsV kvs) (h : H a = some (.frz ob (.dK q))) (d : DenDK G (FzH G R s ι H) ι kvs q) : JOk G R src (Iti a ob q) s ι H := by
  intro R' s' ι' H' T g
  have h' := T.lkd _ _ _ h
  refine ⟨⟨h', by rw [ei, d.length]; simp [itemsV]⟩, fun i x hx => ?_⟩
  rw [ei] at hx
  obtain ⟨p, hp, rfl⟩ := map_get hx
  obtain ⟨k, v, e, hq, dv⟩ := d.get hp
  refine ⟨⟨h', lt_of_get hq⟩, fun u H'' y => ?_⟩
  obtain ⟨Tp, k', v', hk, rfl, hT, rfl⟩ := y
  rw [hq] at hk
  cases hk
  rw [e, kV_k1K]
  exact new_tup T.sim hT (DenL.cons (den_k1 k) (DenL.cons (T.den dv) DenL.nil))
theorem j_itemsT {src : Src} {a : Addr} {ob : Obj} {kvs : List (Ky × W)} {q : List (List L2.Key × V)} (ei : src.items = itemsV kvs) (h : H a = some (.frz ob (.dT q))) (d : DenDT G (FzH G R s ι H) ι kvs q) : JOk G R src (ItiT a ob q) s ι H := by
  intro R' s' ι' H' T g
  have h' := T.lkd _ _ _ h
  refine ⟨⟨h', by rw [ei, d.length]; simp [itemsV]⟩, fun i x hx => ?_⟩
  rw [ei] at hx
  obtain ⟨p, hp, rfl⟩ := map_get hx
  obtain ⟨k, v, e, hq, dv⟩ := d.get hp
  refine ⟨⟨h', lt_of_get hq⟩, fun u H'' y => ?_⟩
  obtain ⟨Tp, b, k', v', hk, rfl, hb, hT, rfl⟩ := y
  rw [hq] at hk
  cases hk
  rw [e]
  exact new_tup T.sim hT (DenL.cons (den_key T.sim hb) (DenL.cons (T.den dv) DenL.nil))
end
section
variable {X : Cx} {G : Gx} {Wx : WX} {tg e : PySem.Expr} {ra : Env → M W} {apos cpos : Pos}
theorem vw_imp {f : List (Ky × W) → List W} {σ : L2.St} {H : Hp} {RR : L2.It → Hp → Prop} {JK : Addr → Obj → List (L2.Key × V) → L2.It} {JT : Addr → Obj → List (List L2.Key × V) → L2.It}
    (hk : ∀ {R s ι H} {src : Src} {a ob kvs q}, src.items = f kvs → H a = some (.frz ob (.dK q)) → DenDK G (FzH G R s ι H) ι kvs q → JOk G R src (JK a ob q) s ι H)
    (ht : ∀ {R s ι H} {src : Src} {a ob kvs q}, src.items = f kvs → H a = some (.frz ob (.dT q)) → DenDT G (FzH G R s ι H) ι kvs q → JOk G R src (JT a ob q) s ι H)
    (h : tI G Wx (fun ρ => M.bind (ra ρ) fun x => M.op (vwW f x)) σ H RR) :
    tE G Wx ra σ H fun x H1 => ∃ d o, x = .ref d ∧ ((∃ kvs, H1 d = some (.frz o (.dK kvs)) ∧ RR (JK d o kvs) H1) ∨ ∃ kvs, H1 d = some (.frz o (.dT kvs)) ∧ RR (JT d o kvs) H1) := by
  obtain ⟨R, s, ι, ρ, S, D, P⟩ := h
  refine ⟨R, s, ι, ρ, S, D, P.bind.mono fun w s1 ι1 H1 T1 P1 v d => ?_⟩
  obtain ⟨src, s2, e2, K⟩ := P1.op
  obtain ⟨a, kvs, o, ob, rfl, rfl, ei, hg, ho, dd⟩ := vw_den T1.sim d e2
  have K1 := K _ _ (Step.refl T1.sim) hg
  rcases dd.dk with ⟨q, rfl, dq⟩ | ⟨q, rfl, dq⟩
  · exact ⟨a, ob, rfl, .inl ⟨q, ho, K1 _ (hk ei ho dq)⟩⟩
  · exact ⟨a, ob, rfl, .inr ⟨q, ho, K1 _ (ht ei ho dq)⟩⟩
theorem pi_keysW (ha : PE X e (tE G Wx ra)) : PI X tg e (tI G Wx fun ρ => M.bind (ra ρ) fun x => M.op (vwW keysV x)) :=
  PI.imp (pi_keys ha) fun σ H RR h => vw_imp j_keys j_keysT h
theorem pi_valsW (ha : PE X e (tE G Wx ra)) (hb : baseX e = true) (hl : (apos.endLine == cpos.line) = true) : PI X tg (.Call (.Attribute e "values" apos) [] [] cpos) (tI G Wx fun ρ => M.bind (ra ρ) fun x => M.op (vwW valsV x)) :=
  PI.imp (pi_values2 ha (base_ok hb) hl) fun σ H RR h => vw_imp j_vals j_valsT h
theorem pi_itemsW {elts : List PySem.Expr} {kk : Nat} {tpos : Pos} (ha : PE X e (tE G Wx ra)) (hb : baseX e = true) (hl : (apos.endLine == cpos.line) = true) : PI X (.Tuple elts kk tpos) (.Call (.Attribute e "items" apos) [] [] cpos) (tI G Wx fun ρ => M.bind (ra ρ) fun x => M.op (vwW itemsV x)) :=
  PI.imp (pi_items2 ha (base_ok hb) hl) fun σ H RR h => vw_imp j_items j_itemsT h
end
/-! ### locks -/
theorem lkN_some {ρ : Env} {i : Nat} {f : Option Nat} {s : Sto} {n : Nat} {lk : Bool} {kvs : List (Ky × W)} (h : lkN ρ i f s = some (n, lk, kvs)) : s.get n = some (.dct lk kvs) := by
  unfold lkN at h
  split at h
  · cases h
  · split at h
    · split at h
      · rename_i e
        cases h
        exact e
      · cases h
    · cases h
theorem unlk_some {n : Nat} {s s2 : Sto} (h : unlk n s = some s2) : ∃ kvs, s.get n = some (.dct true kvs) ∧ s2 = s.set n (.dct false kvs) := by
  unfold unlk at h
  split at h
  · rename_i kvs e
    cases h
    exact ⟨kvs, e, rfl⟩
  · cases h
section
variable {X : Cx} {G : Gx} {Wx : WX} {e : PySem.Expr} {st : Stmt} {r : Env → M W} {m : Env → MO}
theorem mut_of {G : Gx} {F : Fz} {ι : List Addr} {kvs : List (Ky × W)} {o : HO} (d : DenD G F ι kvs o) : Mut (some o) := by
  rcases d.dk with ⟨q, rfl, _⟩ | ⟨q, rfl, _⟩ <;> trivial
theorem pe_lkdW (i : Nat) (f : Option Nat) (h0 : PE X e (tE G Wx r)) : PE X e (tE G Wx fun ρ => M.lock ρ i f (r ρ)) := by
  refine ⟨fun pins st σ H Q I h => ?_⟩
  obtain ⟨R, s, ι, ρ, S, D, P⟩ := h
  have P : Post G Wx σ R s ι H (M.lock ρ i f (r ρ) s) _ := P
  unfold M.lock at P
  cases q : lkN ρ i f s with
  | none => rw [q] at P; exact P.elim
  | some z =>
    obtain ⟨n, lk, kvs⟩ := z
    rw [q] at P
    cases lk with
    | true => exact h0.run pins st σ H Q I ⟨R, s, ι, ρ, S, D, P⟩
    | false =>
      have hn := lkN_some q
      obtain ⟨a, ha, haR, o, ho, d⟩ := S.obj n _ hn
      have ho : H a = some o := ho
      refine (pe_lock h0).run pins st σ H Q I ⟨a, o, ho, mut_of d, fun od => ?_⟩
      have T0 := Step.lock S hn ha ho d od
      refine ⟨R, s.set n (.dct true kvs), ι, ρ, T0.sim, D.step T0, ?_⟩
      simp only at P
      cases e1 : r ρ (s.set n (.dct true kvs)) with
      | none => rw [e1] at P; exact P.elim
      | some z =>
        obtain ⟨z, s'⟩ := z
        rw [e1] at P
        cases z with
        | error _ => exact P.elim
        | ok w =>
          simp only at P
          cases e2 : unlk n s' with
          | none => rw [e2] at P; exact P.elim
          | some s2 =>
            rw [e2] at P
            obtain ⟨kvs', hn', rfl⟩ := unlk_some e2
            intro ι' H' T v dv
            obtain ⟨q1, T2, fz⟩ := Step.locked S hn ha ho d T hn'
            exact ⟨q1, P ι' _ T2 v (dv.mono fz fun _ _ h => h)⟩
theorem ps_lkdW (i : Nat) (f : Option Nat) (h0 : PS X st (tS G Wx m)) : PS X st (tS G Wx fun ρ => MO.lock ρ i f (m ρ)) := by
  refine ⟨fun pins st σ H Z I h => ?_⟩
  obtain ⟨R, s, ι, ρ, S, D, P⟩ := h
  have P : PostO G Wx R s ι H Z (MO.lock ρ i f (m ρ) s) := P
  unfold MO.lock at P
  cases q : lkN ρ i f s with
  | none => rw [q] at P; exact P.elim
  | some z =>
    obtain ⟨n, lk, kvs⟩ := z
    rw [q] at P
    cases lk with
    | true => exact h0.run pins st σ H Z I ⟨R, s, ι, ρ, S, D, P⟩
    | false =>
      have hn := lkN_some q
      obtain ⟨a, ha, haR, o, ho, d⟩ := S.obj n _ hn
      have ho : H a = some o := ho
      refine (ps_lock h0).run pins st σ H Z I ⟨a, o, ho, mut_of d, fun od => ?_⟩
      have T0 := Step.lock S hn ha ho d od
      refine ⟨R, s.set n (.dct true kvs), ι, ρ, T0.sim, D.step T0, ?_⟩
      simp only at P
      cases e1 : m ρ (s.set n (.dct true kvs)) with
      | none => rw [e1] at P; exact P.elim
      | some z =>
        obtain ⟨z, s'⟩ := z
        rw [e1] at P
        cases z with
        | ex x ρ' => exact P.elim
        | nx ρ' =>
          simp only at P
          cases e2 : unlk n s' with
          | none => rw [e2] at P; exact P.elim
          | some s2 =>
            rw [e2] at P
            obtain ⟨kvs', hn', rfl⟩ := unlk_some e2
            intro ι' H' σ' T D'
            obtain ⟨q1, T2, fz⟩ := Step.locked S hn ha ho d T hn'
            exact ⟨q1, P ι' _ σ' T2 ⟨D'.1, fun i w h => let ⟨v, e, q⟩ := D'.2 i w h; ⟨v, e, q.mono fz fun _ _ h => h⟩⟩⟩
        | ct ρ' =>
          simp only at P
          cases e2 : unlk n s' with
          | none => rw [e2] at P; exact P.elim
          | some s2 =>
            rw [e2] at P
            obtain ⟨kvs', hn', rfl⟩ := unlk_some e2
            intro ι' H' σ' T D'
            obtain ⟨q1, T2, fz⟩ := Step.locked S hn ha ho d T hn'
            exact ⟨q1, P ι' _ σ' T2 ⟨D'.1, fun i w h => let ⟨v, e, q⟩ := D'.2 i w h; ⟨v, e, q.mono fz fun _ _ h => h⟩⟩⟩
        | bk ρ' =>
          simp only at P
          cases e2 : unlk n s' with
          | none => rw [e2] at P; exact P.elim
          | some s2 =>
            rw [e2] at P
            obtain ⟨kvs', hn', rfl⟩ := unlk_some e2
            intro ι' H' σ' T D'
            obtain ⟨q1, T2, fz⟩ := Step.locked S hn ha ho d T hn'
            exact ⟨q1, P ι' _ σ' T2 ⟨D'.1, fun i w h => let ⟨v, e, q⟩ := D'.2 i w h; ⟨v, e, q.mono fz fun _ _ h => h⟩⟩⟩
        | rt w =>
          simp only at P
          cases e2 : unlk n s' with
          | none => rw [e2] at P; exact P.elim
          | some s2 =>
            rw [e2] at P
            obtain ⟨kvs', hn', rfl⟩ := unlk_some e2
            intro ι' H' v T dv
            obtain ⟨q1, T2, fz⟩ := Step.locked S hn ha ho d T hn'
            exact ⟨q1, P ι' _ v T2 (dv.mono fz fun _ _ h => h)⟩
end
end Mn

end

section
set_option Elab.async false
set_option linter.all false
set_option maxRecDepth 100000
set_option maxHeartbeats 2000000
/-! Mini: comprehensions. -/
namespace Mn
open PySem PySem.Spec PyProof.Rows L2
abbrev WF : WX := fun _ _ _ _ => False
theorem tE.mono {G : Gx} {Wx : WX} {r : Env → M W} {σ : L2.St} {H : Hp} {Q Q' : VK} (h : tE G Wx r σ H Q) (hQ : ∀ v H, Q v H → Q' v H) : tE G Wx r σ H Q' := by
  obtain ⟨R, s, ι, ρ, S, D, P⟩ := h
  exact ⟨R, s, ι, ρ, S, D, P.mono fun w s' ι' H' T K v d => hQ _ _ (K v d)⟩
/-! ### what is wiped -/
theorem wipeE_some {ρ : Env} {i : Nat} {x : W} : ∀ {vs : List Nat}, (wipeE ρ vs)[i]? = some (some x) → ρ[i]? = some (some x) ∧ i ∉ vs
  | [], h => ⟨h, by simp⟩
  | v :: vs, h => by
    unfold wipeE at h
    rw [List.getElem?_set] at h
    by_cases e : v = i
    · rw [if_pos e] at h
      split at h <;> cases h
    · rw [if_neg e] at h
      obtain ⟨h1, h2⟩ := wipeE_some h
      exact ⟨h1, fun m => by
        rcases List.mem_cons.mp m with z | z
        · exact e z.symm
        · exact h2 z⟩
theorem wipeE_length (ρ : Env) : ∀ vs : List Nat, (wipeE ρ vs).length = ρ.length
  | [] => rfl
  | v :: vs => by unfold wipeE; rw [List.length_set, wipeE_length ρ vs]
theorem wipe_in {σ : L2.St} {i : Nat} : ∀ {vs : List Nat}, i ∈ vs → i < σ.length → (wipe σ vs)[i]? = some none
  | [], h, _ => by cases h
  | v :: vs, h, hl => by
    unfold wipe
    rw [List.getElem?_set]
    by_cases e : v = i
    · rw [if_pos e, if_pos (by rw [wipe_length, e]; exact hl)]
    · rw [if_neg e]
      rcases List.mem_cons.mp h with z | z
      · exact absurd z.symm e
      · exact wipe_in z hl
theorem keep_wipe {σ σ2 : L2.St} {vs : List Nat} (h : Keep vs (wipe σ vs) σ2) : wipe σ2 vs = wipe σ vs := by
  have hl : σ2.length = σ.length := by rw [h.1, wipe_length]
  refine List.ext_getElem? fun i => ?_
  by_cases hi : i ∈ vs
  · by_cases hs : i < σ.length
    · rw [wipe_in hi (by omega), wipe_in hi hs]
    · rw [List.getElem?_eq_none (by rw [wipe_length]; omega), List.getElem?_eq_none (by rw [wipe_length]; omega)]
  · rw [wipe_out hi, h.2 i hi]
theorem EnvD.wipe {G : Gx} {R : List Addr} {s : Sto} {ι : List Addr} {H : Hp} {ρ : Env} {σ : L2.St} (D : EnvD G R s ι H ρ σ) (vs : List Nat) : EnvD G R s ι H (wipeE ρ vs) (L2.wipe σ vs) := by
  refine ⟨by rw [wipeE_length, wipe_length]; exact D.1, fun i w h => ?_⟩
  obtain ⟨h1, h2⟩ := wipeE_some h
  obtain ⟨v, e, d⟩ := D.2 i w h1
  exact ⟨v, by rw [wipe_out h2]; exact e, d⟩
theorem EnvD.ext {G : Gx} {R R' : List Addr} {s s1 : Sto} {ι ι1 : List Addr} {H H1 : Hp} {ρ : Env} {σ : L2.St} (d : EnvD G R s ι H ρ σ) (a : Ext G R s ι H R' s1 ι1 H1) : EnvD G R' s1 ι1 H1 ρ σ :=
  ⟨d.1, fun i w h => let ⟨v, e, q⟩ := d.2 i w h; ⟨v, e, a.den q⟩⟩
/-! ### the new list, reserved -/
section
variable {G : Gx} {R : List Addr} {s s' : Sto} {ι ι' : List Addr} {H H' : Hp} {D : Addr} {xs : List V}
theorem Rd_off {H H' : Hp} {a D : Addr} {u : HO} (n : a ≠ D) (e : ∀ b, b ≠ D → H' b = H b) (h : Rd H a u) : Rd H' a u := by
  unfold Rd at h ⊢
  rw [e a n]
  exact h
theorem FzH.off {R' : List Addr} {a : Addr} {u : HO} (n : a ≠ D) (nR : a ∉ R') (e : ∀ b, b ≠ D → H' b = H b) (h : FzH G R s ι H a u) : FzH G R' s ι H' a u := by
  refine ⟨⟨h.1.1, nR⟩, ?_⟩
  have h2 := h.2
  cases u with
  | tup vs => exact (e a n).trans h2
  | frz ob u => exact (e a n).trans h2
  | lst vs => exact Rd_off n e h2
  | dK kvs => exact ⟨Rd_off n e h2.1, fun q => (e a n).trans (h2.2 q)⟩
  | dT kvs => exact ⟨Rd_off n e h2.1, fun q => (e a n).trans (h2.2 q)⟩
  | ins C dx fs => exact (e a n).trans h2
  | xd fs => exact (e a n).trans h2
  | _ => exact h2.elim
theorem tabs_off {T : List (Addr × Str)} (t : LamX.Tabs T H) (hl : ∀ u, H D = some u → ∃ xs, u = .lst xs) (e : ∀ b, b ≠ D → H' b = H b) : LamX.Tabs T H' := fun p hp => by
  obtain ⟨ps, e1, e2, e3⟩ := t p hp
  have n1 : p.1 ≠ D := fun z => by
    rw [z] at e1
    obtain ⟨xs, q⟩ := hl _ e1
    cases q
  refine ⟨ps, by rw [e _ n1]; exact e1, e2, fun pos cv hc => ?_⟩
  obtain ⟨c, f1, f2⟩ := e3 pos cv hc
  refine ⟨c, f1, ?_⟩
  rw [e c fun z => by
    rw [z] at f2
    obtain ⟨xs, q⟩ := hl _ f2
    unfold LamX.CodeO at q
    cases q]
  exact f2
theorem resv_in (S : Sim G R s ι H) (hD : H D = none) (xs : List V) : Ext G R s ι H (D :: R) s ι (upd H D (.lst xs)) := by
  have ne : ∀ b, b ≠ D → upd H D (.lst xs) b = H b := fun b n => upd_ne n
  have fz : ∀ a u, FzH G R s ι H a u → FzH G (D :: R) s ι (upd H D (.lst xs)) a u := fun a u h => by
    have n : a ≠ D := fun z => h.there (by rw [z]; exact hD)
    exact h.off n (fun m => by
      rcases List.mem_cons.mp m with z | z
      · exact n z
      · exact h.1.2 z) ne
  have nR : ∀ a ∈ R, a ≠ D := fun a ha z => S.res a ha (by rw [z]; exact hD)
  refine ⟨⟨S.len, S.lt, S.inj, fun n o e => ?_, fun a ha => ?_, tabs_off S.tab (fun u q => by rw [hD] at q; cases q) ne, fun q hq => (S.con q hq).mono fz fun _ _ h => h, fun a ha u hu => ?_⟩, fun _ _ h => h, fz, fun a ob u h => (upd_ne (ne_of_none h hD)).trans h⟩
  · obtain ⟨a, h1, h2, h3⟩ := S.obj n o e
    have na : a ≠ D := fun z => Live.tracked S ⟨n, o, e, h1⟩ (by rw [z]; exact hD)
    exact ⟨a, h1, fun m => by
      rcases List.mem_cons.mp m with z | z
      · exact na z
      · exact h2 z, h3.mono fz (fun _ _ h => h) (upd_ne na)⟩
  · rcases List.mem_cons.mp ha with z | z
    · rw [z, upd_same]; exact fun q => by cases q
    · rw [upd_ne (nR a z)]; exact S.res a z
  · rcases List.mem_cons.mp ha with z | z
    · rw [z, upd_same] at hu
      cases hu
      trivial
    · rw [upd_ne (nR a z)] at hu
      exact S.rnt a z u hu
/-- without D -/
def eraH (H : Hp) (D : Addr) : Hp := fun a => if a = D then none else H a
theorem eraH_ne {H : Hp} {D b : Addr} (n : b ≠ D) : eraH H D b = H b := if_neg n
theorem eraH_at {H : Hp} {D : Addr} : eraH H D D = none := if_pos rfl
theorem eraH_upd {H : Hp} {D : Addr} {o : HO} : upd (eraH H D) D o = upd H D o := by
  funext b
  unfold upd eraH
  by_cases h : b = D
  · rw [if_pos h, if_pos h]
  · rw [if_neg h, if_neg h, if_neg h]
theorem resv_out (S : Sim G R s ι H) (hD : H D = none) (T : Step G (D :: R) s ι (upd H D (.lst xs)) s' ι' H') :
    Step G R s ι H s' ι' (eraH H' D) ∧ H' D = some (.lst xs) ∧ ∀ a u, FzH G (D :: R) s' ι' H' a u → FzH G R s' ι' (eraH H' D) a u := by
  have S' := T.sim
  have ne : ∀ b, b ≠ D → eraH H' D b = H' b := fun b n => eraH_ne n
  have atD : H' D = some (.lst xs) := (T.res D List.mem_cons_self).trans upd_same
  have fz : ∀ a u, FzH G (D :: R) s' ι' H' a u → FzH G R s' ι' (eraH H' D) a u := fun a u h =>
    h.off (fun z => h.1.2 (by rw [z]; exact List.mem_cons_self)) (fun m => h.1.2 (List.mem_cons_of_mem _ m)) ne
  have nR : ∀ a ∈ R, a ≠ D := fun a ha z => S.res a ha (by rw [z]; exact hD)
  have I := resv_in S hD xs
  refine ⟨⟨⟨S'.len, S'.lt, S'.inj, fun n o e => ?_, fun a ha => ?_, tabs_off S'.tab (fun u q => ⟨xs, by rw [atD] at q; exact (Option.some.inj q).symm⟩) ne, fun q hq => (S'.con q hq).mono fz fun _ _ h => h, fun a ha u hu => ?_⟩, T.pre, fun a u h => fz a u (T.frz a u (I.frz a u h)), fun a ha => ?_, fun a ob u h => ?_⟩, atD, fz⟩
  · obtain ⟨a, h1, h2, h3⟩ := S'.obj n o e
    have na : a ≠ D := fun z => h2 (by rw [z]; exact List.mem_cons_self)
    exact ⟨a, h1, fun m => h2 (List.mem_cons_of_mem _ m), h3.mono fz (fun _ _ h => h) (ne a na)⟩
  · rw [ne a (nR a ha)]; exact S'.res a (List.mem_cons_of_mem _ ha)
  · rw [ne a (nR a ha)] at hu; exact S'.rnt a (List.mem_cons_of_mem _ ha) u hu
  · rw [ne a (nR a ha), T.res a (List.mem_cons_of_mem _ ha), upd_ne (nR a ha)]
  · have n : a ≠ D := fun z => by rw [z, hD] at h; cases h
    rw [ne a n]
    exact T.lkd a ob u ((upd_ne n).trans h)
end
theorem calm_ok {α : Type} {m : M α} {s s' : Sto} {a : α} (h : M.calm m s = some (.ok a, s')) : m s = some (.ok a, s') := by
  unfold M.calm at h
  split at h
  · cases h; assumption
  · cases h
theorem calm_of {α : Type} {m : M α} {s s' : Sto} {a : α} (h : m s = some (.ok a, s')) : M.calm m s = some (.ok a, s') := by
  unfold M.calm
  rw [h]
theorem bind_ok {α β : Type} {m : M α} {f : α → M β} {s s' : Sto} {b : β} (h : M.bind m f s = some (.ok b, s')) : ∃ a s1, m s = some (.ok a, s1) ∧ f a s1 = some (.ok b, s') := by
  unfold M.bind at h
  cases e : m s with
  | none => rw [e] at h; cases h
  | some p =>
    obtain ⟨q, s1⟩ := p
    rw [e] at h
    cases q with
    | error x => cases h
    | ok a => exact ⟨a, s1, rfl, h⟩
theorem mkL_len {m : Bool} {ws : List W} {w : W} {s s' : Sto} (h : mkL m ws s = some (w, s')) : ws.length ≤ sizeLine := by
  unfold mkL at h
  split at h
  · assumption
  · cases h
/-- one turn of a comprehension -/
def lcF (ga : W → Env → M Env) (rt : Env → M Bool) (re : Env → M W) (ρ : Env) : W → M (Option W) := fun x => M.bind (ga x ρ) fun ρ' => M.bind (rt ρ') fun b => if b then M.bind (re ρ') fun y => M.ret (some y) else M.ret none
section
variable {X : Cx} {G : Gx} {Wx : WX} {sl : List Nat} {ri : Env → M Src} {ga : W → Env → M Env} {rt : Env → M Bool} {re : Env → M W} {m : Bool}
theorem lc_imp {σ : L2.St} {H : Hp} {Q : VK} (h : tE G Wx (fun ρ => M.bind (ri ρ) fun src => M.bind (M.calm (M.gather (lcF ga rt re (wipeE ρ sl)) src.grd src.items)) fun ys => M.op (mkL m ys)) σ H Q) :
    tLc (tI G Wx ri) (tG G WF sl ga) (tT G WF rt) (tE G WF re) sl σ H Q := by
  obtain ⟨R, s, ι, ρ, S, D, P⟩ := h
  refine ⟨R, s, ι, ρ, S, D, P.bind.mono fun src s1 ι1 H1 T1 P1 => ?_⟩
  intro hg J hJ Dd hD
  have D1 := D.step T1
  have P2 := P1.bind
  cases e : M.calm (M.gather (lcF ga rt re (wipeE ρ sl)) src.grd src.items) s1 with
  | none => rw [e] at P2; exact P2.elim
  | some z =>
    obtain ⟨z, se⟩ := z
    cases z with
    | error _ => unfold M.calm at e; split at e <;> cases e
    | ok ys =>
      rw [e] at P2
      have eg := calm_ok e
      refine ⟨fun i n H => n = src.items.length - i ∧ i ≤ src.items.length ∧ ∃ s ι H0 aw av ys', H = upd H0 Dd (.lst av) ∧ H0 Dd = none ∧ Step G R s1 ι1 H1 s ι H0 ∧ DenL G (FzH G R s ι H0) ι aw av ∧ src.grd s = true ∧
        M.gather (lcF ga rt re (wipeE ρ sl)) src.grd (src.items.drop i) s = some (.ok ys', se) ∧ ys = aw ++ ys', ⟨_, rfl, Nat.zero_le _, s1, ι1, H1, [], [], ys, rfl, hD, Step.refl T1.sim, DenL.nil, hg, eg, rfl⟩, ?_⟩
      rintro i n H ⟨rfl, hi, s, ι, H0, aw, av, ys', rfl, hD0, T, dl, hgs, eg', ey⟩
      have I := resv_in T.sim hD0 av
      have X0 : Ext G R s1 ι1 H1 (Dd :: R) s ι (upd H0 Dd (.lst av)) := ⟨I.sim, fun n a h => I.pre n a (T.pre n a h), fun a u h => I.frz a u (T.frz a u h), fun a ob u h => I.lkd a ob u (T.lkd a ob u h)⟩
      obtain ⟨j1, j2⟩ := hJ (Dd :: R) s ι _ X0 hgs
      by_cases hlt : i < src.items.length
      · have hx : src.items[i]? = some src.items[i] := List.getElem?_eq_getElem hlt
        obtain ⟨j3, j4⟩ := j2 i _ hx
        rw [List.drop_eq_getElem_cons hlt] at eg'
        generalize src.items[i] = x at eg' j3 j4
        obtain ⟨o, s2, ef, eg2⟩ := bind_ok eg'
        have eg3 : (if src.grd s2 then M.bind (M.gather (lcF ga rt re (wipeE ρ sl)) src.grd (src.items.drop (i + 1))) fun ys => M.ret (consO o ys) else M.no) s2 = some (.ok ys', se) := eg2
        have hg2 : src.grd s2 = true := by
          by_cases q : src.grd s2 = true
          · exact q
          · rw [if_neg q] at eg3; cases eg3
        rw [if_pos hg2] at eg3
        obtain ⟨r, s3, er, eg4⟩ := bind_ok eg3
        cases eg4
        obtain ⟨ρ', sa, ea, ef2⟩ := bind_ok ef
        obtain ⟨b, sb, eb, ef3⟩ := bind_ok ef2
        refine .inr ⟨j3, fun H' => ∃ s ι H0 aw av ys', H' = upd H0 Dd (.lst av) ∧ H0 Dd = none ∧ Step G R s1 ι1 H1 s ι H0 ∧ DenL G (FzH G R s ι H0) ι aw av ∧ src.grd s = true ∧
          M.gather (lcF ga rt re (wipeE ρ sl)) src.grd (src.items.drop (i + 1)) s = some (.ok ys', se) ∧ ys = aw ++ ys', fun H' q => ⟨_, by omega, rfl, hlt, q⟩, fun v H2 y => ?_⟩
        obtain ⟨T2, d⟩ := j4 v H2 y
        refine ⟨Dd :: R, s, ι, wipeE ρ sl, x, T2.sim, ((D1.ext X0).step T2).wipe sl, d, ?_⟩
        rw [calm_of ea]
        intro ι3 H3 T3 σ3 D3 K3
        refine ⟨keep_wipe K3, Dd :: R, sa, ι3, ρ', T3.sim, D3, ?_⟩
        rw [eb]
        intro ι4 H4 T4
        have T24 := (T2.trans T3).trans T4
        cases b with
        | true =>
          show tE G WF re σ3 H4 _
          have ef4 : M.bind (re ρ') (fun y => M.ret (some y)) sb = some (.ok o, s2) := ef3
          obtain ⟨y, s4, ere, eo⟩ := bind_ok ef4
          cases eo
          refine ⟨Dd :: R, sb, ι4, ρ', T4.sim, D3.step T4, ?_⟩
          rw [ere]
          intro ι5 H5 T5 vy dy
          obtain ⟨To, hD5, fo⟩ := resv_out T.sim hD0 (T24.trans T5)
          have Tt := T.trans To
          refine ⟨av, hD5, ?_, _, ι5, eraH H5 Dd, aw ++ [y], av ++ [vy], r, eraH_upd.symm, eraH_at, Tt, DenL.append (To.denL dl) (DenL.cons (dy.mono fo fun _ _ h => h) DenL.nil), hg2, er, by rw [ey]; simp [consO]⟩
          have hl : ys.length ≤ sizeLine := by
            have P3 := P1
            unfold M.bind at P3
            rw [e] at P3
            have P3 : Post G Wx σ R s1 ι1 H1 (M.op (mkL m ys) se) _ := P3
            cases ew : mkL m ys se with
            | none =>
              unfold M.op at P3
              rw [ew] at P3
              exact P3.elim
            | some z =>
              exact mkL_len (s := se) (w := z.1) (s' := z.2) ew
          rw [ey] at hl
          rw [← dl.length]
          simp [consO] at hl
          omega
        | false =>
          simp only [Bool.false_eq_true, if_false]
          have ef4 : M.ret none sb = some (.ok o, s2) := ef3
          cases ef4
          obtain ⟨To, hD5, fo⟩ := resv_out T.sim hD0 T24
          refine ⟨_, ι4, eraH H4 Dd, aw, av, r, ?_, eraH_at, T.trans To, To.denL dl, hg2, er, by rw [ey]; rfl⟩
          rw [eraH_upd]
          funext b
          unfold upd
          by_cases h : b = Dd
          · rw [if_pos h, h]; exact hD5
          · rw [if_neg h]
      · have hi' : i = src.items.length := by omega
        subst hi'
        rw [List.drop_length] at eg'
        cases eg'
        refine .inl ⟨j1, ?_⟩
        obtain ⟨w, s6, ew, K⟩ := (P2 ι H0 T).op
        obtain ⟨hl, mk⟩ := mkL_ok T.sim ew
        rw [List.append_nil] at ey
        subst ey
        obtain ⟨ι', Tm, dm⟩ := mk Dd av hD0 dl
        exact K ι' _ Tm _ dm
theorem PTs.imp {e : List PySem.Expr} {t t' : TT} (h : PTs X e t) (hi : ∀ σ H Q, t' σ H Q → t σ H Q) : PTs X e t' := ⟨fun pins s σ H Q I q => h.run pins s σ H Q I (hi σ H Q q)⟩
theorem pts_nilW : PTs X [] (tT G Wx fun _ => M.ret true) := PTs.imp pts_nil fun σ H Q ⟨R, s, ι, ρ, S, D, P⟩ => P.ret S
theorem pts_oneW {c : PySem.Expr} {rc : Env → M W} (hc : PT X c (tT G Wx fun ρ => M.bind (rc ρ) M.tru)) : PTs X [c] (tT G Wx fun ρ => M.bind (rc ρ) fun x => M.bind (M.tru x) fun b => if b then M.ret true else M.ret false) := by
  refine PTs.imp (pts_one hc) fun σ H Q ⟨R, s, ι, ρ, S, D, P⟩ => ⟨R, s, ι, ρ, S, D, ?_⟩
  have e : ∀ s, M.bind (rc ρ) (fun x => M.bind (M.tru x) fun b => if b then M.ret true else M.ret false) s = M.bind (rc ρ) M.tru s := fun s => by
    unfold M.bind
    cases rc ρ s with
    | none => rfl
    | some p =>
      obtain ⟨q, s'⟩ := p
      cases q with
      | error _ => rfl
      | ok x =>
        simp only
        cases M.tru x s' with
        | none => rfl
        | some p =>
          obtain ⟨q, s2⟩ := p
          cases q with
          | error _ => rfl
          | ok b => cases b <;> rfl
  show Post G Wx σ R s ι H (M.bind (rc ρ) M.tru s) _
  rw [← e]
  exact P
variable {elt tg iter : PySem.Expr} {ifs : List PySem.Expr} {scope : Scope} {own : List (Str × Nat)} {pos : Pos}
/-- what a comprehension does -/
def lcW (m : Bool) (sl : List Nat) (ri : Env → M Src) (ga : W → Env → M Env) (rt : Env → M Bool) (re : Env → M W) : Env → M W := fun ρ => M.bind (ri ρ) fun src => M.bind (M.calm (M.gather (lcF ga rt re (wipeE ρ sl)) src.grd src.items)) fun ys => M.op (mkL m ys)
theorem pe_lcW (hc : X.calm = true) (hN : X.N.Nodup) (hi : PI X tg iter (tI G Wx ri)) (ok : BlkOk X.N X.env.scope scope own) (hsl : own.map (·.2) = sl)
    (hg : ∀ (s : Shared) (H : Hp) (C : Addr) (cl : List (Str × Addr)) (fp : List Addr), PG (X.blk s H scope (compEnvC scope cl C X.env) fp) tg (tG G WF sl ga)) (ht : ∀ (s : Shared) (H : Hp) (C : Addr) (cl : List (Str × Addr)) (fp : List Addr), PTs (X.blk s H scope (compEnvC scope cl C X.env) fp) ifs (tT G WF rt))
    (he : ∀ (s : Shared) (H : Hp) (C : Addr) (cl : List (Str × Addr)) (fp : List Addr), PE (X.blk s H scope (compEnvC scope cl C X.env) fp) elt (tE G WF re)) (hs : ∀ x, foldedSetIterable iter X.env x = pure x) :
    PE X (.ListComp elt [⟨tg, iter, ifs, 0⟩] scope pos) (tE G Wx (lcW m sl ri ga rt re)) := by
  subst hsl
  exact PE.imp (pe_lc hc hN hi ok hg ht he hs) fun σ H Q h => lc_imp h
theorem ps_setLcW {i : Nat} {y : Str} {py spos : Pos} (hc : X.calm = true) (hN : X.N.Nodup) (hy : X.N[i]? = some y) (hyl : X.env.scope.names.lookup y = some .local)
    (hsw : swapsWith (.ListComp elt [⟨tg, iter, ifs, 0⟩] scope pos) (some (.Name y py)) spos.line X.env = pure true) (hi : PI X tg iter (tI G Wx ri)) (ok : BlkOk X.N X.env.scope scope own) (hsl : own.map (·.2) = sl)
    (hg : ∀ (s : Shared) (H : Hp) (C : Addr) (cl : List (Str × Addr)) (fp : List Addr), PG (X.blk s H scope (compEnvC scope cl C X.env) fp) tg (tG G WF sl ga)) (ht : ∀ (s : Shared) (H : Hp) (C : Addr) (cl : List (Str × Addr)) (fp : List Addr), PTs (X.blk s H scope (compEnvC scope cl C X.env) fp) ifs (tT G WF rt))
    (he : ∀ (s : Shared) (H : Hp) (C : Addr) (cl : List (Str × Addr)) (fp : List Addr), PE (X.blk s H scope (compEnvC scope cl C X.env) fp) elt (tE G WF re)) (hs : ∀ x, foldedSetIterable iter X.env x = pure x) :
    PS X (.Assign [.Name y py] (.ListComp elt [⟨tg, iter, ifs, 0⟩] scope pos) spos) (tS G Wx fun ρ => toO ρ (lcW m sl ri ga rt re ρ) fun x => toO ρ (M.calm (M.ret (setE ρ i x))) fun ρ' s => some (.nx ρ', s)) := by
  subst hsl
  refine PS.imp (ps_setLc (i := i) hc hN hy hyl hsw hi ok hg ht he hs) fun Z σ H h => ?_
  have h1 : tAsg (tE G Wx (lcW m (own.map (·.2)) ri ga rt re)) (tG G Wx [i] fun w ρ => M.ret (setE ρ i w)) Z σ H := asg_imp h
  have h2 := tE.mono h1 (Q' := fun v H1 => gName i v σ H1 Z.nx) fun v H1 ⟨R, s, ι, ρ, w, S, D, d, P⟩ => P.calmRet S _ (D.set d i) ⟨List.length_set, fun j hj => List.getElem?_set_ne fun e => hj (by rw [e]; exact List.mem_singleton_self _)⟩
  exact lc_imp h2
end
end Mn

end

section
set_option Elab.async false
set_option linter.all false
set_option maxRecDepth 100000
set_option maxHeartbeats 2000000
/-! Mini: raise, what is told, lambdas. -/
namespace Mn
open PySem PySem.Spec PyProof.Rows L2
abbrev bmVE : List Value := [.type "ValueError", .type "Exception", .type "BaseException", .type "object"]
/-- an own class under ValueError that may be raised -/
structure XcT (K : PySem.W.Frag) (C : Addr) : Prop where
  exc : PySem.W.excIn K C bmVE "ValueError.__new__" = true
  kp : PySem.W.keepIn K (.ref C) = true
  sub : PySem.W.subIn K (.ref C) (.type "BaseException") = some true
  ty : PySem.W.typeIn K (.ref C) = some (.type "type")
section
variable {X : Cx} {G : Gx} {Wx : WX} {e : PySem.Expr} {re : Env → M W} {x : Str} {p pos pos' : Pos}
theorem ps_raisW {c : Nat} (hc : X.calm = true) (tk : Takes X Wx) (hx : XcT X.K (G.cad c)) (hg : Gl X x) (hm : X.mg x = some (.ref (G.cad c))) (he : PE X e (tE G Wx re)) (hp : plainX e = true) (hdb : (x == ("__debug__" : Str)) = false) :
    PS X (.Raise (some (.Call (.Name x p) [e] [] pos)) none pos') (tS G Wx fun ρ => toO ρ (re ρ) fun _ s => some (.ex ⟨c, none⟩ ρ, s)) := by
  refine PS.imp (ps_raise hc tk (SkE.pmk_own1 PySem.F.excBase_ValueError hx.exc hm hx.kp (raises_own hx.sub hx.ty) hg he (starEach_plain hp) hdb)) fun Z σ H ⟨R, s, ι, ρ, S, D, P⟩ => ?_
  exact ⟨R, s, ι, ρ, S, D, (P.toO D).mono fun w s1 ι1 H1 T1 P1 v d => P1 ι1 H1 _ none σ (Step.refl T1.sim) ⟨rfl, rfl⟩ (D.step T1)⟩
end
/-! ### told -/
/-- the first clause that fits -/
def tMany (K : PySem.W.Frag) (Q : VK) : List (Value × Str) → Value → Hp → Prop
  | [], _, _ => False
  | (c, r) :: t, cls, H => ∃ b, PySem.W.exmOne K cls c = some b ∧ (b = true → Q (.str r) H) ∧ (b = false → tMany K Q t cls H)
def TToldM (K : PySem.W.Frag) (cs : List (Value × Str)) : (XK → Hp → VK → Prop) → Hp → VK → Prop := fun tl H Q => tl (fun cls _ H' => tMany K Q cs cls H') H Q
inductive THs (mg : Str → Option Value) (sg : Scope) : List ExceptHandler → List (Value × Str) → Prop
  | nil : THs mg sg [] []
  | cons {e : Str} {C : Addr} {ret : Str} {j : Nat} {p4 p5 p6 p7 : Pos} {hs : List ExceptHandler} {cs : List (Value × Str)} (hge : sg.names.lookup e = some .globalImplicit) (hme : mg e = some (.ref C)) (hde : (e == ("__debug__" : Str)) = false) (r : THs mg sg hs cs) :
      THs mg sg (.ExceptHandler (some (.Name e p4)) none [.Return (some (.Constant (.str ret) j p5)) p6] p7 :: hs) ((.ref C, ret) :: cs)
theorem told_givesM {X : Cx} {Ng : List Str} {x a q : Str} {sg : Scope} {g : Addr} {cdg : Value} {p1 p2 p3 p8 : Pos} {h₀ : ExceptHandler} {hs : List ExceptHandler} {cs : List (Value × Str)} (hh : THs X.mg sg (h₀ :: hs) cs) (h0 : ∀ f : Addr, (L2.start Ng [V.ref f])[0]? = some (some (V.ref f))) :
    LamX.GivesTo X Ng x sg g cdg [.Try [.Return (some (.Call (.Name a p1) [] [] p2)) p3] (h₀ :: hs) [] [] p8] a q (TToldM X.K cs) := by
  intro f c' s H Q tl act hc h
  have hds : ∀ {hs cs}, THs X.mg sg hs cs → HdsOk ((cxOf C8.CX0 X.prog X.w X.K X.mg X.base Ng x sg g cdg X.A X.stack s H C8.E0).nox) hs (cs.map fun p => (p.1, fun _ _ _ D σ H => D.rt (.str p.2) H)) := fun {hs cs} h => by
    induction h with
    | nil => exact .nil
    | @cons e C ret j p4 p5 p6 p7 hs cs hge hme hde r ih =>
      have hgl : Gl (cxOf C8.CX0 X.prog X.w X.K X.mg X.base Ng x sg g cdg X.A X.stack s H C8.E0).nox e := hge
      exact .cons ⟨hgl, hde, .inl hme⟩ (fun a oe cls d pn _ _ => pss_one (ps_ret pe_str)) ih
  have wm : ∀ (D : Ends) {cs : List (Value × Str)} {cls d σ H}, tMany X.K D.rt cs cls H → wMany X.K (fun _ _ _ _ => False) D (cs.map fun p => (p.1, fun _ _ _ D σ H => D.rt (.str p.2) H)) cls d σ H := fun D cs => by
    induction cs with
    | nil => exact fun {cls d σ H} z => z
    | cons p t ih =>
      obtain ⟨c, r⟩ := p
      intro cls d σ H z
      obtain ⟨b, e1, e2, e3⟩ := z
      exact ⟨b, e1, fun hb a _ => e2 hb, fun hb => ih (e3 hb)⟩
  refine ⟨_, pss_one (ps_try_many (X := (cxOf C8.CX0 X.prog X.w X.K X.mg X.base Ng x sg g cdg X.A X.stack s H C8.E0).nox)
      (tb := fun W D σ H => ∃ Ech : XK, (∀ cls d σ' H', Ech cls d H' → W cls d σ' H') ∧ σ[0]? = some (some (.ref f)) ∧ H c' = some (LamX.CodeO c' q) ∧ tl Ech H D.rt)
      rfl rfl LamX.takes0 (fun W pn xe tk _ => ?_) (hds hh)), ?_⟩
  · refine ⟨fun pins s' σ H' D I h' => ?_⟩
    obtain ⟨Ech, hW, h1, h2, h3⟩ := h'
    have hp := act W pn xe Ech p1 p2 tk hW
    have hq := pss_one (ps_ret (pos := p3) hp)
    exact hq.run pins s' σ H' D I ⟨h1, h2, h3⟩
  · exact ⟨fun cls _ H' => tMany X.K Q cs cls H', fun cls d σ' H' z => wm { nx := fun _ H' => Q .non H', rt := Q } z, h0 f, hc, h⟩
/-- what is told of m -/
def toldW (pg : Pg) : List (Nat × List Nat) → Xn → M W
  | [], _ => M.no
  | (c, r) :: t, e => match pg.sub e.c c with
    | some true => M.ret (.str r)
    | some false => toldW pg t e
    | none => M.no
def toldM (pg : Pg) (cs : List (Nat × List Nat)) (m : M W) : M W := fun s => match m s with
  | none => none
  | some (.ok w, s') => some (.ok w, s')
  | some (.error e, s') => toldW pg cs e s'
/-- the classes' own facts -/
structure SubT (K : PySem.W.Frag) (G : Gx) (pg : Pg) : Prop where
  sub : ∀ c d b, pg.sub c d = some b → PySem.W.exmOne K (.ref (G.cad c)) (.ref (G.cad d)) = some b
def csV (G : Gx) (cs : List (Nat × List Nat)) : List (Value × Str) := cs.map fun p => (.ref (G.cad p.1), ⟨p.2.toArray⟩)
section
variable {X : Cx} {G : Gx} {Wx : WX} {pg : Pg}
theorem told_no {s : Sto} {cs : List (Nat × List Nat)} {e : Xn} : ∀ {r : Rs W}, toldW pg cs e s = r → r = none ∨ ∃ t, r = some (.ok (.str t), s) := by
  induction cs with
  | nil => intro r h; subst h; exact .inl rfl
  | cons p t ih =>
    obtain ⟨c, x⟩ := p
    intro r h
    unfold toldW at h
    cases q : pg.sub e.c c with
    | none => rw [q] at h; subst h; exact .inl rfl
    | some b =>
      rw [q] at h
      cases b with
      | true => subst h; exact .inr ⟨x, rfl⟩
      | false => exact ih h
theorem told_tMany (T : SubT G.K G pg) {Q : VK} {H : Hp} {s : Sto} {e : Xn} {t : List Nat} : ∀ {cs : List (Nat × List Nat)}, toldW pg cs e s = some (.ok (.str t), s) → Q (.str ⟨t.toArray⟩) H → tMany G.K Q (csV G cs) (.ref (G.cad e.c)) H
  | [], h, _ => by cases h
  | (c, r) :: u, h, q => by
    unfold toldW at h
    cases hs : pg.sub e.c c with
    | none => rw [hs] at h; cases h
    | some b =>
      rw [hs] at h
      cases b with
      | true => cases h; exact ⟨true, T.sub _ _ _ hs, fun _ => q, fun z => by cases z⟩
      | false => exact ⟨false, T.sub _ _ _ hs, (fun z => by cases z), fun _ => told_tMany T h q⟩
theorem takes_lam {A : Around} {outer : List PySem.Env} {s : Shared} {H : Hp} {E : XK} {scope : Scope} {f c' : Addr} : Takes (LamX.lamCx X A outer s H E scope f c') (fun cls d _ H => E cls d H) := takes_of rfl rfl rfl rfl
/-- told(lambda: e) -/
theorem pe_lamW (hK : X.K = G.K) (T : SubT G.K G pg) {x a : Str} {g c P : Addr} {k : Nat} {pgs : Arguments} {sg : Scope} {dV kV doc pm cdv ct oc : Value} {an od : Option Addr} {osl : Array (Option Value)} {Ng : List Str}
    {params : Arguments} {body : PySem.Expr} {scope : Scope} {p lpos pos p1 p2 p3 p8 : Pos} {h₀ : ExceptHandler} {hs : List ExceptHandler} {cs : List (Nat × List Nat)} {rb : Env → M W}
    (hg : Gl X x) (hm : X.mg x = some (.ref g)) (hk : PySem.W.keepIn X.K (.ref g) = true)
    (lk : X.K.lookup g = some ⟨oc, od, .func (PySem.W.fnOf x x pgs [.Try [.Return (some (.Call (.Name a p1) [] [] p2)) p3] (h₀ :: hs) [] [] p8] sg dV kV doc pm an cdv ct), osl⟩) (hcg : PySem.W.codeIn X.K cdv x = true)
    (hb : L2.Binds X.K (PySem.W.fnOf x x pgs [.Try [.Return (some (.Call (.Name a p1) [] [] p2)) p3] (h₀ :: hs) [] [] p8] sg dV kV doc pm an cdv ct) [a] []) (Sg : FnScope Ng [a] sg) (hNg : Ng[0]? = some a) (hva : Vis sg a)
    (hh : THs X.mg sg (h₀ :: hs) (csV G cs)) (h0 : ∀ f : Addr, (L2.start Ng [V.ref f])[0]? = some (some (V.ref f)))
    (TB : LamX.TabB X.base X.mg c P) (hcode : X.env.code = .ref c) (hmT : (P, X.env.qual ++ "<lambda>") ∈ G.T) (hu : ∀ p ∈ G.T, p.1 = P → p.2 = X.env.qual ++ "<lambda>") (hr : Room (k + 2) X.A) (L : LamX.LamS X.env.scope scope) (hdef : defaultsOf params X.env = ([], []))
    (hbind : ∀ (q : Str) (cl : List (Str × Addr)) (pm cv ctv : Value), bindArgs (PySem.W.kla_fn "<lambda>" q params body scope cl pm cv ctv) ⟨[], []⟩ = pure [])
    (hbody : ∀ (A : Around) (outer : List PySem.Env) (s : Shared) (H : Hp) (E : XK) (f c' : Addr), Room k (A.deeper (LamX.lamEnv X scope s.heap.objs.size f c')) → PE (LamX.lamCx X A outer s H E scope f c') body (tE G (fun cls d _ H' => E cls d H') rb))
    (hdb : (x == ("__debug__" : Str)) = false) (hd : (a == ("__debug__" : Str)) = false) (hcd : (a == ("__classdict__" : Str)) = false) :
    PE X (.Call (.Name x p) [.Lambda params body scope lpos] [] pos) (tE G Wx fun ρ => toldM pg cs (rb ρ)) := by
  refine PE.imp (LamX.pe_lamcall (t := fun E => tE G (fun cls d _ H' => E cls d H') rb) hg hm hk lk hcg hb Sg hNg hva (told_givesM hh h0) TB hcode hmT hu hr L hdef hbind hbody hdb hd hcd) fun σ H Q ⟨R, s, ι, ρ, S, D, P⟩ => ?_
  refine ⟨S.tab, fun H1 eN T1 => ?_⟩
  have St := Step.tabs S eN T1
  refine ⟨R, s, ι, ρ, St.sim, D.step St, ?_⟩
  have P1 : Post G Wx σ R s ι H1 (toldM pg cs (rb ρ) s) fun w s' ι' H' => ∀ v, Den G (FzH G R s' ι' H') ι' w v → Q v H' := Post.seq St P
  unfold toldM at P1
  cases er : rb ρ s with
  | none => rw [er] at P1; exact P1
  | some z =>
    obtain ⟨z, s'⟩ := z
    rw [er] at P1
    cases z with
    | ok w => exact P1
    | error e =>
      intro ι' H' cls d T' x
      simp only at P1
      rcases told_no (pg := pg) (s := s') (cs := cs) (e := e) rfl with e1 | ⟨t, e1⟩
      · rw [e1] at P1; exact P1.elim
      · rw [e1] at P1
        have q := P1 ι' H' T' (.str ⟨t.toArray⟩) den_str
        rw [x.1, hK]
        exact told_tMany T e1 q
end
end Mn

end

section
set_option Elab.async false
set_option linter.all false
set_option maxRecDepth 100000
set_option maxHeartbeats 2000000
/-! Mini: stores side by side, dicts made and asked. -/
namespace Mn
open PySem PySem.Spec PyProof.Rows L2
def ixX : PySem.Expr → Bool
  | .Name _ _ => true
  | .Constant _ _ _ => true
  | .Attribute _ _ _ => true
  | .Subscript _ _ _ => true
  | .BinOp _ _ _ _ => true
  | .UnaryOp _ _ _ => true
  | .Call _ _ _ _ => true
  | .IfExp _ _ _ _ => true
  | .Tuple _ _ _ => true
  | _ => false
theorem ix_plain {b : PySem.Expr} (h : ixX b = true) : PlainIx b := by
  cases b <;> first | (simp [ixX] at h; done) | (intro o i; rfl)
theorem ix_asg {a b : PySem.Expr} {pos : Pos} {env : PySem.Env} (h : ixX b = true) (v : Value) : assign (.Subscript a b pos) env v = (do
      let ov ← holding [v] (eval a env)
      let iv ← holding [v, ov] (eval b env)
      standAt pos
      holding [v, ov, iv] (setItem ov iv v)
      release [v, ov, iv] []) := by
  cases b <;> first | (simp [ixX] at h; done) | rfl
section
variable {X : Cx} {G : Gx} {Wx : WX} {pg : Pg} {a b c o e f : PySem.Expr} {ra rb rc ro : Env → M W} {pos apos cpos : Pos} {ras : Env → M (List W)}
theorem tupM_ok {σ : L2.St} {R : List Addr} {s : Sto} {ι : List Addr} {H : Hp} {Z : Ends} {xs : List W} {ρ : Env} {k : W → MO} (h : PostO G Wx R s ι H Z (toO ρ (if xs.length ≤ line then M.ret (W.tup xs) else M.no) k s)) : PostO G Wx R s ι H Z (k (.tup xs) s) := by
  by_cases hl : xs.length ≤ line
  · rw [if_pos hl] at h; exact h
  · rw [if_neg hl] at h; exact h.elim
theorem toO_bind {α β : Type} {ρ : Env} {m : M α} {g : α → M β} {k : β → MO} {s : Sto} : toO ρ (M.bind m g) k s = toO ρ m (fun x => toO ρ (g x) k) s := by
  unfold Mn.toO M.bind
  cases m s with
  | none => rfl
  | some p => obtain ⟨q, s'⟩ := p; cases q <;> rfl
/-- a, b = x, y -/
theorem ps_parW2 {i j : Nat} {x y : Str} {px py pt : Pos} {kt k2 : Nat} {pt2 : Pos} (hc : X.calm = true) (hN : X.N.Nodup) (hi : X.N[i]? = some x) (hj : X.N[j]? = some y) (hij : i ≠ j)
    (hx : X.env.scope.names.lookup x = some .local) (hy : X.env.scope.names.lookup y = some .local) (ha : PA X [a, b] (tA G Wx ras))
    (hw : swappedStores [.Tuple [.Name x px, .Name y py] kt pt] (.Tuple [a, b] k2 pt2) X.env = pure (some [x, y])) {tw : List F} {th : Option (M W)} :
    PS X (.Assign [.Tuple [.Name x px, .Name y py] kt pt] (.Tuple [a, b] k2 pt2) pos) (tS G Wx fun ρ => toO ρ (M.bind (ras ρ) fun xs => if xs.length ≤ line then M.ret (.tup xs) else M.no) fun w => toO ρ (M.calm (asgT pg tw th (.tup (.cons (.var i) (.cons (.var j) .nil))) w ρ)) fun ρ' s => some (.nx ρ', s)) := by
  refine PS.imp (ps_par hc hN hi hj hij hx hy ha hw) fun Z σ H ⟨R, s, ι, ρ, S, D, P⟩ => ?_
  have P : PostO G Wx R s ι H Z (toO ρ (M.bind (ras ρ) fun xs => if xs.length ≤ line then M.ret (.tup xs) else M.no) (fun w => toO ρ (M.calm (asgT pg tw th (.tup (.cons (.var i) (.cons (.var j) .nil))) w ρ)) fun ρ' s => some (.nx ρ', s)) s) := P
  rw [toO_bind] at P
  refine ⟨R, s, ι, ρ, S, D, (P.toO D).mono fun xs s1 ι1 H1 T1 P1 vs d => ?_⟩
  have P2 := tupM_ok (σ := σ) P1
  match xs, P2, d with
  | [], P2, _ => exact P2.elim
  | [x0], P2, _ => exact P2.elim
  | x0 :: x1 :: x2 :: r, P2, _ => exact P2.elim
  | [x0, x1], P2, d =>
    obtain ⟨v, z, rfl, d0, d1⟩ := denl2 d
    exact ⟨v, z, rfl, PostO.nx T1.sim (((D.step T1).set d0 i).set d1 j) P2⟩
theorem ps_parW3 {i j l : Nat} {x y z : Str} {px py pz pt : Pos} {kt k2 : Nat} {pt2 : Pos} (hc : X.calm = true) (hN : X.N.Nodup) (hi : X.N[i]? = some x) (hj : X.N[j]? = some y) (hl : X.N[l]? = some z) (hij : i ≠ j) (hil : i ≠ l) (hjl : j ≠ l)
    (hx : X.env.scope.names.lookup x = some .local) (hy : X.env.scope.names.lookup y = some .local) (hz : X.env.scope.names.lookup z = some .local) (ha : PA X [a, b, c] (tA G Wx ras))
    (hw : swappedStores [.Tuple [.Name x px, .Name y py, .Name z pz] kt pt] (.Tuple [a, b, c] k2 pt2) X.env = pure (some [x, y, z])) {tw : List F} {th : Option (M W)} :
    PS X (.Assign [.Tuple [.Name x px, .Name y py, .Name z pz] kt pt] (.Tuple [a, b, c] k2 pt2) pos) (tS G Wx fun ρ => toO ρ (M.bind (ras ρ) fun xs => if xs.length ≤ line then M.ret (.tup xs) else M.no) fun w => toO ρ (M.calm (asgT pg tw th (.tup (.cons (.var i) (.cons (.var j) (.cons (.var l) .nil)))) w ρ)) fun ρ' s => some (.nx ρ', s)) := by
  refine PS.imp (ps_par3 hc hN hi hj hl hij hil hjl hx hy hz ha hw) fun Z σ H ⟨R, s, ι, ρ, S, D, P⟩ => ?_
  have P : PostO G Wx R s ι H Z (toO ρ (M.bind (ras ρ) fun xs => if xs.length ≤ line then M.ret (.tup xs) else M.no) (fun w => toO ρ (M.calm (asgT pg tw th (.tup (.cons (.var i) (.cons (.var j) (.cons (.var l) .nil)))) w ρ)) fun ρ' s => some (.nx ρ', s)) s) := P
  rw [toO_bind] at P
  refine ⟨R, s, ι, ρ, S, D, (P.toO D).mono fun xs s1 ι1 H1 T1 P1 vs d => ?_⟩
  have P2 := tupM_ok (σ := σ) P1
  match xs, P2, d with
  | [], P2, _ => exact P2.elim
  | [x0], P2, _ => exact P2.elim
  | [x0, x1], P2, _ => exact P2.elim
  | x0 :: x1 :: x2 :: x3 :: r, P2, _ => exact P2.elim
  | [x0, x1, x2], P2, d =>
    simp only [DenL] at d
    obtain ⟨v0, _, rfl, d0, v1, _, rfl, d1, v2, _, rfl, d2, rfl⟩ := d
    exact ⟨v0, v1, v2, rfl, PostO.nx T1.sim ((((D.step T1).set d0 i).set d1 j).set d2 l) P2⟩
/-- o[i] = v -/
theorem pg_subW {k0 : Nat} (hK : X.K = G.K) (hr : L2.Room k0 X.A) (ho : PE X a (tE G WF ra)) (hi : PE X b (tE G WF rb)) (hs : ixX b = true) :
    PG X (.Subscript a b pos) (tG G Wx [] fun w ρ => M.bind (ra ρ) fun u => M.bind (rb ρ) fun j => M.bind (M.op (stS u j w)) fun _ => M.ret ρ) := by
  refine PG.imp (pg_sub ho hi (setW hK hr) (fun v => ?_)) fun v σ H Q ⟨R, s, ι, ρ, w, S, D, d, P⟩ => ?_
  · exact ix_asg hs v
  · refine ⟨R, s, ι, ρ, S, D, (Post.calmBind (Wx' := WF) (σ' := σ) P).mono fun u s1 ι1 H1 T1 P1 v1 d1 => ?_⟩
    refine ⟨R, s1, ι1, ρ, T1.sim, D.step T1, (Post.calmBind (Wx' := WF) (σ' := σ) P1).mono fun j s2 ι2 H2 T2 P2 v2 d2 => ?_⟩
    have P3 := Post.calmBind (Wx' := WF) (σ' := σ) P2
    obtain ⟨z, s3, e, K⟩ := P3.op
    refine ⟨R, s2, ι2, u, j, w, s3, T2.sim, T2.den d1, d2, T2.den (T1.den d), e, fun ι' H' T => ?_⟩
    exact (K ι' H' T).calmRet T.sim σ (((D.step T1).step T2).step T) ⟨rfl, fun _ _ => rfl⟩
/-- del o[i] -/
theorem ps_delW (ha : PE X a (tE G Wx ra)) (hb : PE X b (tE G Wx rb)) {tpos : Pos} : PS X (.Delete [.Subscript a b tpos] pos) (tS G Wx fun ρ => toO ρ (ra ρ) fun u => toO ρ (rb ρ) fun j s => match delW u j s with
    | some s' => some (.nx ρ, s')
    | none => none) := by
  refine PS.imp (ps_ddel ha hb) fun Z σ H ⟨R, s, ι, ρ, S, D, P⟩ => ?_
  refine ⟨R, s, ι, ρ, S, D, (P.toO D).mono fun u s1 ι1 H1 T1 P1 v1 d1 => ?_⟩
  refine ⟨R, s1, ι1, ρ, T1.sim, D.step T1, (P1.toO (D.step T1)).mono fun j s2 ι2 H2 T2 P2 v2 d2 => ?_⟩
  have d1' := T2.den d1
  cases e : delW u j s2 with
  | none => rw [e] at P2; exact P2.elim
  | some s' =>
    rw [e] at P2
    cases u with
    | ref n =>
      simp only [delW] at e
      simp only [Den] at d1'
      obtain ⟨p, hp, rfl⟩ := d1'
      cases q : s2.get n with
      | none => rw [q] at e; cases e
      | some so =>
        rw [q] at e
        cases so with
        | dct lk kvs =>
          cases lk with
          | true => cases hk : toKy j <;> rw [hk] at e <;> cases e
          | false =>
            cases hk : toKy j with
            | none => rw [hk] at e; cases e
            | some ky =>
              rw [hk] at e
              cases ky with
              | many ks => cases e
              | one k =>
                simp only at e
                cases hg : getK (.one k) kvs with
                | none => rw [hg] at e; cases e
                | some w =>
                  rw [hg] at e
                  cases e
                  obtain ⟨p', h1, h2, o, ho, dd⟩ := T2.sim.obj n _ q
                  rw [hp] at h1
                  cases h1
                  have ho : H2 p = some o := ho
                  rcases key_den hk d2 with ⟨k1, e1, e2⟩ | ⟨ks, b', e1, _⟩
                  · cases e1
                    rcases dd.dk with ⟨q0, rfl, dq⟩ | ⟨q0, rfl, dq⟩
                    · have od := getDK k dq
                      rw [hg] at od
                      cases hv : valV q0 (k1K k) with
                      | none => rw [hv] at od; exact od.elim
                      | some v =>
                        refine ⟨p, q0, k1K k, rfl, ho, e2, by rw [hv]; simp, ?_⟩
                        exact P2 ι2 _ σ (Step.set T2.sim q hp ho trivial fun F' hF => ⟨_, by simpa using upd_same, DenD.ofK (delDK k (dq.mono hF fun _ _ h => h))⟩) (((D.step T1).step T2).step (Step.set T2.sim q hp ho trivial fun F' hF => ⟨_, by simpa using upd_same, DenD.ofK (delDK k (dq.mono hF fun _ _ h => h))⟩))
                    · have od := getDT (G := G) (F := FzH G R s2 ι2 H2) (ι := ι2) [] dq
                      cases kvs with
                      | nil => simp [getK] at hg
                      | cons p0 r0 =>
                        obtain ⟨k0, x0⟩ := p0
                        cases k0 with
                        | one z => simp only [DenDT] at dq
                        | many zs =>
                          exfalso
                          have : ∀ (l : List (Ky × W)) (q : List (List L2.Key × V)), DenDT G (FzH G R s2 ι2 H2) ι2 l q → getK (.one k) l = none := fun l => by
                            induction l with
                            | nil => exact fun _ _ => rfl
                            | cons p r ih =>
                              obtain ⟨k', x'⟩ := p
                              intro q h
                              cases k' with
                              | one z => simp only [DenDT] at h
                              | many zs =>
                                simp only [DenDT] at h
                                obtain ⟨_, _, _, _, h⟩ := h
                                simp [getK, ih _ h]
                          rw [this _ _ dq] at hg
                          cases hg
                  · cases e1
        | _ => simp only at e; cases e
    | _ => cases e
end
end Mn

end

section
set_option Elab.async false
set_option linter.all false
set_option maxRecDepth 100000
set_option maxHeartbeats 2000000
/-! Mini: dicts asked, made of pairs, listed. -/
namespace Mn
open PySem PySem.Spec PyProof.Rows L2
section
variable {X : Cx} {G : Gx} {Wx : WX} {a b c o e f : PySem.Expr} {ra rb rc : Env → M W} {pos apos cpos mpos p : Pos}
theorem isD_of {H : Hp} {a : Addr} {o : HO} {F : Fz} {ι : List Addr} {kvs : List (Ky × W)} (h : Rd H a o) (d : DenD G F ι kvs o) : IsD H a := by
  rcases d.dk with ⟨q, rfl, _⟩ | ⟨q, rfl, _⟩
  · exact .inl ⟨q, h⟩
  · exact .inr ⟨q, h⟩
theorem m2_ok {X : Cx} {o e f : PySem.Expr} {m : Str} {apos cpos : Pos} (hb : baseX o = true) (he : plainX e = true) (hf : plainX f = true) (hl : (apos.endLine == cpos.line) = true) : M2 X o m apos e f cpos :=
  ⟨base_ok hb, by rw [starEach_plain he, starEach_plain hf]; rfl, hl, by rw [starEach_plain he, starEach_plain hf]; rfl⟩
/-- d.get(k, x) -/
theorem pe_dgetW {k0 : Nat} (hr : L2.Room k0 X.A) (ha : PE X a (tE G Wx ra)) (hb : PE X b (tE G Wx rb)) (hc : PE X c (tE G Wx rc)) (hba : baseX a = true) (hpb : plainX b = true) (hpc : plainX c = true) (hl : (apos.endLine == cpos.line) = true) :
    PE X (.Call (.Attribute a "get" apos) [b, c] [] cpos) (tE G Wx fun ρ => M.bind (ra ρ) fun u => M.bind (fun s => M.of (dctOf s u) s) fun _ => M.bind (rb ρ) fun y => M.bind (rc ρ) fun z => M.op (get2W u y z)) := by
  have m := m2_ok (X := X) (m := "get") hba hpb hpc hl
  have hu : X.A.units + 1 < cLine := by have := hr.un; omega
  refine ⟨fun pins st σ H Q I h => ?_⟩
  obtain ⟨R, s, ι, ρ, S, D, P⟩ := h
  refine wpAny_Call_method m.base m.few m.line PySem.F.plainAttrs_dict PySem.F.slot_dict_get PySem.F.type_dict_get (thn (ha.run pins st σ H (fun v H1 => ∃ s1 ι1 u, Step G R s ι H s1 ι1 H1 ∧ Den G (FzH G R s1 ι1 H1) ι1 u v ∧ Post G Wx σ R s1 ι1 H1 (M.bind (fun s => M.of (dctOf s u) s) (fun _ => M.bind (rb ρ) fun y => M.bind (rc ρ) fun z => M.op (get2W u y z)) s1) fun w s' ι' H' => ∀ v, Den G (FzH G R s' ι' H') ι' w v → Q v H') I
    ⟨R, s, ι, ρ, S, D, P.bind.mono fun u s1 ι1 H1 T1 P1 v d => ⟨s1, ι1, u, T1, d, P1⟩⟩) fun uv st1 ⟨x, H1, I1, rx, s1, ι1, u, T1, d1, P1⟩ => ?_)
  obtain ⟨kvs0, ed0, P2⟩ := (P1.bind).of T1.sim
  obtain ⟨p0, o0, rfl, ⟨rd0, _⟩, dd0⟩ := dct_den T1.sim d1 ed0
  obtain rfl : uv = Value.ref p0 := rx
  obtain ⟨t1, t2, _⟩ := isD_at I1 (isD_of rd0 dd0)
  refine ⟨t1, t2, ?_⟩
  rw [m.trees]
  refine Calls.callWith_builtin rfl (Calls.evalArgs_plain (Calls.spliced_cons (thn (hb.run pins st1 σ H1 (fun v H2 => ∃ s2 ι2 y, Step G R s1 ι1 H1 s2 ι2 H2 ∧ Den G (FzH G R s2 ι2 H2) ι2 y v ∧ Post G Wx σ R s2 ι2 H2 (M.bind (rc ρ) (fun z => M.op (get2W u y z)) s2) fun w s' ι' H' => ∀ v, Den G (FzH G R s' ι' H') ι' w v → Q v H') I1
      ⟨R, s1, ι1, ρ, T1.sim, D.step T1, P2.bind.mono fun y s2 ι2 H2 T2 P3 v d => ⟨s2, ι2, y, T2, d, P3⟩⟩) fun iv st2 ⟨yv, H2, I2, ry, s2, ι2, y, T2, d2, P3⟩ =>
    Calls.spliced_cons (thn (hc.run pins st2 σ H2 (fun v H3 => ∃ s3 ι3 z, Step G R s2 ι2 H2 s3 ι3 H3 ∧ Den G (FzH G R s3 ι3 H3) ι3 z v ∧ Post G Wx σ R s3 ι3 H3 (M.op (get2W u y z) s3) fun w s' ι' H' => ∀ v, Den G (FzH G R s' ι' H') ι' w v → Q v H') I2
      ⟨R, s2, ι2, ρ, T2.sim, (D.step T1).step T2, P3.bind.mono fun z s3 ι3 H3 T3 P4 v d => ⟨s3, ι3, z, T3, d, P4⟩⟩) fun fv st3 ⟨zv, H3, I3, rz, s3, ι3, z, T3, d3, P4⟩ => Calls.spliced_nil ?_))))
  obtain ⟨w, s4, e4, K⟩ := P4.op
  unfold get2W at e4
  split at e4
  · rename_i kvs k ed ek
    split at e4
    · rename_i ok
      cases e4
      obtain ⟨p1, o1, ep, ⟨rd, r0⟩, dd⟩ := dct_den T3.sim (T3.den (T2.den d1)) ed
      cases ep
      have fin : ∀ (r : Option V) (v : V), OptD G (FzH G R s3 ι3 H3) ι3 (getK k kvs) r → r.getD zv = v → Q v H3 := fun r v od er => by
        subst er
        refine K ι3 H3 (Step.refl T3.sim) _ ?_
        cases hg : getK k kvs with
        | none =>
          rw [hg] at od
          cases r with
          | none => exact d3
          | some _ => exact od.elim
        | some x =>
          rw [hg] at od
          cases r with
          | none => exact od.elim
          | some _ => exact od
      rcases get_den rd dd ek ok (T3.den d2) with ⟨r, g, od⟩ | ⟨e0, ho⟩
      · exact d_get2 hu I3 g ry rz fun w' st4 I4 rw' => ⟨_, H3, I4, rw', fin r _ od rfl⟩
      · subst e0
        obtain ⟨H', I', g, back⟩ := ask_nil I3 (r0 rfl) ho ek (T3.den d2)
        exact d_get2 hu I' g ry rz fun w' st4 I4 rw' => ⟨zv, H3, back _ I4, rw', fin none _ trivial rfl⟩
    · cases e4
  · cases e4
end
/-! ### list(d) -/
section
variable {X : Cx} {G : Gx} {R : List Addr} {s : Sto} {ι : List Addr} {H : Hp}
theorem keys_denK : ∀ {kvs : List (Ky × W)} {q : List (L2.Key × V)} {F : Fz}, DenDK G F ι kvs q → DenL G F ι (keysV kvs) (q.map fun p => kV p.1)
  | [], q, F, d => by simp only [DenDK] at d; subst d; exact DenL.nil
  | (.many ks, x) :: r, q, F, d => by simp only [DenDK] at d
  | (.one k, x) :: r, q, F, d => by
    simp only [DenDK] at d
    obtain ⟨v, z, rfl, _, d2⟩ := d
    refine DenL.cons ?_ (keys_denK d2)
    show Den G F ι (k1W k) (kV (k1K k))
    rw [kV_k1K]
    exact den_k1 k
theorem keys_denT (S : Sim G R s ι H) : ∀ {kvs : List (Ky × W)} {q : List (List L2.Key × V)} {F : Fz} {bs : List Addr}, DenDT G F ι kvs q → IsKeys H q bs → DenL G (FzH G R s ι H) ι (keysV kvs) (bs.map V.ref)
  | [], q, F, bs, d, h => by
    simp only [DenDT] at d
    subst d
    cases h
    exact DenL.nil
  | (.one ks, x) :: r, q, F, bs, d, h => by simp only [DenDT] at d
  | (.many k, x) :: r, q, F, bs, d, h => by
    simp only [DenDT] at d
    obtain ⟨v, z, rfl, _, d2⟩ := d
    cases h with
    | cons h1 h2 => exact DenL.cons (den_key S h1) (keys_denT S d2 h2)
theorem cb_listd (hc : X.calm = true) {m : Bool} : CallR X (.type "list") (rB G (biW (.listd m))) := by
  refine cb_one (fun ws s r e => ?_) fun pins st σ R s ι H x w s' v u Q I ru S d e K => ?_
  · match ws, e with
    | [], e => simp [biW] at e
    | [x], _ => exact ⟨x, rfl⟩
    | x :: y :: r, e => simp [biW] at e
  · simp only [biW] at e
    split at e
    · rename_i kvs ed
      obtain ⟨hl, mk⟩ := mkL_ok S e
      obtain ⟨p, o, rfl, ⟨rd, r0⟩, dd⟩ := dct_den S d ed
      have e2 : (kvs.map fun p => kyW p.1) = keysV kvs := rfl
      rw [e2] at mk
      rcases dd.dk with ⟨q, rfl, dq⟩ | ⟨q, rfl, dq⟩
      · refine call_listD hc pins st σ H [_] [u] Q I (.cons ru .nil) ⟨p, q, rfl, rd, fun z hz => ?_⟩
        obtain ⟨ι', T, d2⟩ := mk z _ hz (keys_denK dq)
        exact K _ _ _ T d2
      · refine call_list_dT hc pins st σ H [_] [u] Q I (.cons ru .nil) ⟨p, q, rfl, rd, fun z bs hz hk => ?_⟩
        obtain ⟨ι', T, d2⟩ := mk z _ hz (keys_denT S dq hk)
        exact K _ _ _ T d2
    · cases e
end
end Mn

end

section
set_option Elab.async false
set_option linter.all false
set_option maxRecDepth 100000
set_option maxHeartbeats 2000000
/-! Mini: dicts made of pairs. -/
namespace Mn
open PySem PySem.Spec PyProof.Rows L2
def mergeT (kvs more : List (List L2.Key × V)) : List (List L2.Key × V) := more.foldl (fun acc kv => L2.putK acc kv.1 kv.2) kvs
section
variable {X : Cx}
theorem mergeT_length : ∀ (more kvs : List (List L2.Key × V)), (mergeT kvs more).length ≤ kvs.length + more.length
  | [], kvs => by simp [mergeT]
  | p :: r, kvs => by
    have h := mergeT_length r (L2.putK kvs p.1 p.2)
    have h2 : (L2.putK kvs p.1 p.2).length ≤ kvs.length + 1 := by
      unfold L2.putK
      split <;> simp
    show (mergeT (L2.putK kvs p.1 p.2) r).length ≤ _
    rw [List.length_cons]
    omega
theorem KT_merge {H : Hp} : ∀ {more : List (List L2.Key × V)} {ps : List (List L2.Key × Addr × Value)} {kvs : List (List L2.Key × V)} {xs : List (List L2.Key × Addr × Value)}, KT H more ps → KT H kvs xs → KT H (mergeT kvs more) (storedAllH xs ps)
  | _, _, kvs, xs, .nil, r => r
  | _, _, kvs, xs, .cons (a := a) (b := b) h t, r => by
    obtain ⟨h1, h2, h3⟩ := h
    have q := KT.put r a.1 (b := b.2.1) h2 h3
    rw [h1] at q
    have q2 := KT_merge t q
    show KT H (mergeT (L2.putK kvs a.1 a.2) _) (storedAllH (storedH xs b.1 b.2.1 b.2.2) _)
    rw [h1]
    exact q2
theorem pairsT_of {pins : List (Addr × Obj)} {σ : L2.St} {H : Hp} {s : Shared} (I : Inv X pins σ H s) : ∀ {ps : List Addr} {kvs : List (List L2.Key × V)}, Paired (fun p kv => ∃ b, H p = some (.tup [.ref b, kv.2]) ∧ H b = some (.tup (kv.1.map kV))) ps kvs →
    ∃ prs : List (List L2.Key × Addr × Value), KT H kvs prs ∧ prs.length = ps.length ∧ ∀ (j : Nat) (q : List L2.Key × Addr × Value), prs[j]? = some q → ∃ p : Addr, ps[j]? = some p ∧ s.heap.IsTuple p #[.ref q.2.1, q.2.2] ∧ H q.2.1 = some (.tup (q.1.map kV))
  | _, _, .nil => ⟨[], .nil, rfl, fun j q e => by simp at e⟩
  | _, _, .cons (a := p) (b := kv) h t => by
    obtain ⟨prs, r, hl, hp⟩ := pairsT_of I t
    obtain ⟨b, h1, h2⟩ := h
    obtain ⟨its, rv, ht, _⟩ := I.tuple (SqT.of h1)
    obtain ⟨u, y, ei, ru, ry⟩ := vals2 rv
    subst ei
    obtain rfl : u = Value.ref b := ru
    refine ⟨(kv.1, b, y) :: prs, .cons ⟨rfl, h2, ry⟩ r, by rw [List.length_cons, List.length_cons, hl], fun j q e => ?_⟩
    cases j with
    | zero =>
      have e' : (kv.1, b, y) = q := Option.some.inj e
      subst e'
      exact ⟨p, rfl, ht, h2⟩
    | succ j =>
      obtain ⟨p', e1, e2, e3⟩ := hp j q (by simpa using e)
      exact ⟨p', by simpa using e1, e2, e3⟩
theorem call_dictT (hcalm : X.calm = true) (hu : X.A.units + 64 < cLine) : CallR X (.type "dict") (fun xs H Q => ∃ (a : Addr) (ps : List Addr) (kvs : List (List L2.Key × V)), xs = [.ref a] ∧ SqL X.K H a (ps.map V.ref) ∧
    Paired (fun p kv => ∃ b, H p = some (.tup [.ref b, kv.2]) ∧ H b = some (.tup (kv.1.map kV))) ps kvs ∧ ∀ p, H p = none → Q (.ref p) (upd H p (.dT (mergeT [] kvs)))) := by
  intro pins s σ H xs us Q I r q
  obtain ⟨a, ps, kvs, ex, hq, hp, q⟩ := q
  subst ex
  obtain ⟨u, eu, rx⟩ := vals1 r
  subst eu
  cases rx
  obtain ⟨its, rv, pl, hz⟩ := I.list hq
  have ei := refs_at rv
  subst ei
  rw [List.length_map] at hz
  obtain ⟨prs, rel, hl, hpr⟩ := pairsT_of I hp
  have P := PairArg.list (prog := X.prog) (w := X.w) a (ps.map Value.ref).toArray (fun j => ps.getD j 0) (prs.map fun q => (Value.ref q.2.1, q.2.2))
  have hroom : (tupleKind (mixKind X.prog X.w)).room X.A.in1.in1 := by
    show X.A.in1.in1.units < cLine
    simp only [Around.in1]
    omega
  have hn : (prs.map fun q => (Value.ref q.2.1, q.2.2)).length = prs.length := List.length_map _
  refine call_dict_pairsH (knd := tupleKind (mixKind X.prog X.w)) (ps := prs) P (I.ok.hd hcalm) hroom ⟨pl, ?_⟩ ⟨hn.symm, fun i key v e => ?_⟩ (fun h' hk x hx => ?_) (by rw [hn, hl]; exact hz) fun h' tk hd' k => ?_
  · refine ⟨by simp [hl], fun j k v e => ?_⟩
    rw [List.getElem?_map] at e
    cases eq : prs[j]? with
    | none => rw [eq] at e; cases e
    | some q =>
      rw [eq] at e
      cases e
      obtain ⟨p, e1, e2, _⟩ := hpr j q eq
      have e3 : ps.getD j 0 = p := by simp [List.getD, e1]
      exact ⟨by simp [e1], .inl (by show s.heap.IsTuple (ps.getD j 0) _; rw [e3]; exact e2)⟩
  · have e : (prs.map fun q => (Value.ref q.2.1, q.2.2))[i]? = some (key, v) := e
    rw [List.getElem?_map] at e
    cases eq : prs[i]? with
    | none => rw [eq] at e; cases e
    | some q =>
      rw [eq] at e
      cases e
      exact ⟨q.1, q.2.1, rfl, rfl⟩
  · obtain ⟨j, hj⟩ := List.getElem?_of_mem hx
    obtain ⟨p, _, _, e3⟩ := hpr j x hj
    exact tupleKind_stays.stays (fun b o vs n e _ => hk b o (Nat.ne_of_lt (Heap.lt_size e)) (by simp) e) (key_of I.hok e3)
  · have hm : (s.heap.objs.size == sysModules) = false := beq_eq_false_iff_ne.mpr (Nat.ne_of_gt I.big)
    have hlen : (mergeT [] kvs).length ≤ sizeLine := by
      refine Nat.le_trans (mergeT_length kvs []) ?_
      rw [List.length_nil, Nat.zero_add, Paired.length rel, hl]
      exact hz
    have fr : H s.heap.objs.size = none := I.hok.fresh (Nat.le_refl _)
    obtain ⟨o, es, ep, ho, hx, hdt, he, his, nd⟩ := hd'
    refine ⟨.ref s.heap.objs.size, upd H s.heap.objs.size (.dT (mergeT [] kvs)), I.laid (t' := tk) (fun b o e => k b o (by simp) e) (Nat.le_refl _) ?_, rfl, q _ fr⟩
    refine ⟨hlen, hm, storedAllH [] prs, ?_, o, es, ep, ho, hx, hdt, he, nd⟩
    exact (KT_merge rel .nil).keeps fun b ys e => by
      rw [upd_ne (ne_of_none e fr)]
      exact e
end
section
variable {X : Cx} {G : Gx} {R : List Addr} {s : Sto} {ι : List Addr} {H : Hp}
/-- the pairs, plain keys -/
theorem rawP_one : ∀ {xs : List W} {vs : List V} {q : List (Ky × W)}, rawP xs = some q → q.all (fun p => isOne p.1) = true → DenL G (FzH G R s ι H) ι xs vs →
    ∃ (ps : List Addr) (kvs : List (L2.Key × V)), vs = ps.map V.ref ∧ Paired (fun p kv => SqT X.K H p [kV kv.1, kv.2]) ps kvs ∧ DenDK G (FzH G R s ι H) ι q kvs
  | [], vs, q, h, _, d => by
    simp only [rawP] at h
    cases h
    simp only [DenL] at d
    subst d
    exact ⟨[], [], rfl, .nil, by simp only [DenDK]⟩
  | w :: r, vs, q, h, ha, d => by
    simp only [DenL] at d
    obtain ⟨v, vr, rfl, d1, d2⟩ := d
    match w, h, d1 with
    | .tup [k, x], h, d1 =>
      simp only [rawP, Option.bind_eq_some_iff, Option.map_eq_some_iff] at h
      obtain ⟨ky, ek, q', eq, rfl⟩ := h
      rw [List.all_cons, Bool.and_eq_true] at ha
      obtain ⟨ps, kvs, rfl, pr, dk⟩ := rawP_one eq ha.2 d2
      simp only [Den] at d1
      obtain ⟨p, ws, rfl, f, dl⟩ := d1
      obtain ⟨kv, xv, rfl, dk1, dx⟩ := denl2 dl
      rcases key_den ek dk1 with ⟨k1, rfl, rfl⟩ | ⟨ks, b, rfl, _⟩
      · exact ⟨p :: ps, (k1K k1, xv) :: kvs, rfl, .cons (SqT.of f.2) pr, by simp only [DenDK]; exact ⟨xv, kvs, rfl, dx, dk⟩⟩
      · cases ha.1
    | .tup [], h, _ => simp [rawP] at h
    | .tup [_], h, _ => simp [rawP] at h
    | .tup (_ :: _ :: _ :: _), h, _ => simp [rawP] at h
    | .non, h, _ => simp [rawP] at h
    | .bl _, h, _ => simp [rawP] at h
    | .int _, h, _ => simp [rawP] at h
    | .str _, h, _ => simp [rawP] at h
    | .lst _, h, _ => simp [rawP] at h
    | .dct _, h, _ => simp [rawP] at h
    | .obj _ _, h, _ => simp [rawP] at h
    | .ref _, h, _ => simp [rawP] at h
    | .ctp _, h, _ => simp [rawP] at h
theorem rawP_many : ∀ {xs : List W} {vs : List V} {q : List (Ky × W)}, rawP xs = some q → q.all (fun p => !isOne p.1) = true → DenL G (FzH G R s ι H) ι xs vs →
    ∃ (ps : List Addr) (kvs : List (List L2.Key × V)), vs = ps.map V.ref ∧ Paired (fun p kv => ∃ b, H p = some (.tup [.ref b, kv.2]) ∧ H b = some (.tup (kv.1.map kV))) ps kvs ∧ DenDT G (FzH G R s ι H) ι q kvs
  | [], vs, q, h, _, d => by
    simp only [rawP] at h
    cases h
    simp only [DenL] at d
    subst d
    exact ⟨[], [], rfl, .nil, by simp only [DenDT]⟩
  | w :: r, vs, q, h, ha, d => by
    simp only [DenL] at d
    obtain ⟨v, vr, rfl, d1, d2⟩ := d
    match w, h, d1 with
    | .tup [k, x], h, d1 =>
      simp only [rawP, Option.bind_eq_some_iff, Option.map_eq_some_iff] at h
      obtain ⟨ky, ek, q', eq, rfl⟩ := h
      rw [List.all_cons, Bool.and_eq_true] at ha
      obtain ⟨ps, kvs, rfl, pr, dk⟩ := rawP_many eq ha.2 d2
      simp only [Den] at d1
      obtain ⟨p, ws, rfl, f, dl⟩ := d1
      obtain ⟨kv, xv, rfl, dk1, dx⟩ := denl2 dl
      rcases key_den ek dk1 with ⟨k1, rfl, rfl⟩ | ⟨ks, b, rfl, rfl, hb⟩
      · cases ha.1
      · exact ⟨p :: ps, (ks.map k1K, xv) :: kvs, rfl, .cons ⟨b, f.2, hb⟩ pr, by simp only [DenDT]; exact ⟨xv, kvs, rfl, dx, dk⟩⟩
    | .tup [], h, _ => simp [rawP] at h
    | .tup [_], h, _ => simp [rawP] at h
    | .tup (_ :: _ :: _ :: _), h, _ => simp [rawP] at h
    | .non, h, _ => simp [rawP] at h
    | .bl _, h, _ => simp [rawP] at h
    | .int _, h, _ => simp [rawP] at h
    | .str _, h, _ => simp [rawP] at h
    | .lst _, h, _ => simp [rawP] at h
    | .dct _, h, _ => simp [rawP] at h
    | .obj _ _, h, _ => simp [rawP] at h
    | .ref _, h, _ => simp [rawP] at h
    | .ctp _, h, _ => simp [rawP] at h
theorem putAllK {F : Fz} : ∀ {q : List (Ky × W)} {kvs : List (L2.Key × V)} {acc : List (Ky × W)} {qa : List (L2.Key × V)}, DenDK G F ι q kvs → DenDK G F ι acc qa → DenDK G F ι (putAll acc q) (mergeK qa kvs)
  | [], kvs, acc, qa, d, da => by simp only [DenDK] at d; subst d; exact da
  | (.many ks, x) :: r, kvs, acc, qa, d, da => by simp only [DenDK] at d
  | (.one k, x) :: r, kvs, acc, qa, d, da => by
    simp only [DenDK] at d
    obtain ⟨v, z, rfl, d1, d2⟩ := d
    have := putAllK (q := r) (kvs := z) d2 (putDK (k := k) (kvs := acc) (q := qa) d1 da)
    exact this
theorem putAllT {F : Fz} : ∀ {q : List (Ky × W)} {kvs : List (List L2.Key × V)} {acc : List (Ky × W)} {qa : List (List L2.Key × V)}, DenDT G F ι q kvs → DenDT G F ι acc qa → DenDT G F ι (putAll acc q) (mergeT qa kvs)
  | [], kvs, acc, qa, d, da => by simp only [DenDT] at d; subst d; exact da
  | (.one ks, x) :: r, kvs, acc, qa, d, da => by simp only [DenDT] at d
  | (.many k, x) :: r, kvs, acc, qa, d, da => by
    simp only [DenDT] at d
    obtain ⟨v, z, rfl, d1, d2⟩ := d
    have := putAllT (q := r) (kvs := z) d2 (putDT (ks := k) (kvs := acc) (q := qa) d1 da)
    exact this
theorem cb_dict (hc : X.calm = true) (hu : X.A.units + 64 < cLine) : CallR X (.type "dict") (rB G (biW .dict)) := by
  refine cb_one (fun ws s r e => ?_) fun pins st σ R s ι H x w s' v u Q I ru S d e K => ?_
  · match ws, e with
    | [], e => simp [biW] at e
    | [x], _ => exact ⟨x, rfl⟩
    | x :: y :: r, e => simp [biW] at e
  · simp only [biW] at e
    split at e
    · rename_i kvs ed
      split at e
      · cases e
        simp only [Option.bind_eq_some_iff] at ed
        obtain ⟨xs, e1, ed⟩ := ed
        unfold pairsOf at ed
        simp only [Option.bind_eq_some_iff] at ed
        obtain ⟨q, e2, ed⟩ := ed
        obtain ⟨a, vs, rfl, rd, dl⟩ := lst_den S d e1
        split at ed
        · rename_i hk
          cases ed
          rw [Bool.or_eq_true] at hk
          rcases hk with hk | hk
          · obtain ⟨ps, kv, rfl, pr, dk⟩ := rawP_one (X := X) e2 hk dl
            refine call_dictP hc pins st σ H [_] [u] Q I (.cons ru .nil) ⟨a, ps, kv, rfl, .inl rd, pr, fun p hp => ?_⟩
            have dd := putAllK (acc := []) (qa := []) dk (by simp only [DenDK])
            obtain ⟨T, e⟩ := Step.new S hp (ho := .dK (mergeK [] kv)) (so := .dct false (putAll [] q)) fun F' hF => ⟨_, by simpa using upd_same, DenD.ofK (dd.mono hF fun _ _ h => get_app h)⟩
            exact K _ _ _ T (e _)
          · obtain ⟨ps, kv, rfl, pr, dk⟩ := rawP_many e2 hk dl
            refine call_dictT hc hu pins st σ H [_] [u] Q I (.cons ru .nil) ⟨a, ps, kv, rfl, .inl rd, pr, fun p hp => ?_⟩
            have dd := putAllT (acc := []) (qa := []) dk (by simp only [DenDT])
            obtain ⟨T, e⟩ := Step.new S hp (ho := .dT (mergeT [] kv)) (so := .dct false (putAll [] q)) fun F' hF => ⟨_, by simpa using upd_same, DenD.ofT (dd.mono hF fun _ _ h => get_app h)⟩
            exact K _ _ _ T (e _)
        · cases ed
      · cases e
    · cases e
end
end Mn

end

section
set_option Elab.async false
set_option linter.all false
set_option maxRecDepth 100000
set_option maxHeartbeats 2000000
/-! Mini: list(d.items()), x in d.values(). -/
namespace Mn
open PySem PySem.Spec PyProof.Rows L2
/-- the tuples tracked at their addresses -/
def putT2 : Hp → List Addr → List (V × V) → Hp
  | H, a :: as, p :: ps => putT2 (upd H a (.tup [p.1, p.2])) as ps
  | H, _, _ => H
theorem putT2_off {b : Addr} : ∀ (as : List Addr) (ps : List (V × V)) (H : Hp), b ∉ as → putT2 H as ps b = H b
  | [], _, _, _ => rfl
  | _ :: _, [], _, _ => rfl
  | a :: as, p :: ps, H, h => by
    show putT2 (upd H a (.tup [p.1, p.2])) as ps b = H b
    rw [putT2_off as ps _ (fun z => h (List.mem_cons_of_mem _ z)), upd_ne (fun z => h (by rw [z]; exact List.mem_cons_self))]
theorem putT2_at : ∀ (as : List Addr) (ps : List (V × V)) (H : Hp), as.length = ps.length → as.Nodup → Paired (fun (t : Addr) (p : V × V) => putT2 H as ps t = some (.tup [p.1, p.2])) as ps
  | [], [], _, _, _ => .nil
  | [], _ :: _, _, h, _ => by cases h
  | _ :: _, [], _, h, _ => by cases h
  | a :: as, p :: ps, H, h, hn => by
    have hn' := List.nodup_cons.mp hn
    have ih := putT2_at as ps (upd H a (.tup [p.1, p.2])) (Nat.succ.inj h) hn'.2
    refine .cons ?_ ih
    show putT2 (upd H a (.tup [p.1, p.2])) as ps a = some (.tup [p.1, p.2])
    rw [putT2_off as ps _ hn'.1, upd_same]
section
variable {X : Cx} {e : PySem.Expr} {te : TE} {p apos cpos pos : Pos}
/-- what was laid by list(d.items()) -/
theorem items_laid2 {pins : List (Addr × Obj)} {σ : L2.St} {H : Hp} {s : Shared} {h' : Heap} {tk : Nat} {ps : List (V × V)} {es : Array DictEntry} {acc : Array Value} {c : Nat} {as : List Addr} (I : Inv X pins σ H s) (hz : ps.length ≤ sizeLine)
    (kv : ∀ (j : Nat) (p : V × V), ps[j]? = some p → ∃ hj : j < es.size, RelV p.1 es[j].key ∧ RelV p.2 es[j].val) (hlen : ps.length = es.size)
    (hk : ∀ b o, s.heap.get? b = some o → h'.get? b = some o) (hS : h'.get? s.heap.objs.size = some { cls := .type "list", dict := none, data := .seq acc c, slots := #[] }) (hl : as.length = es.size) (hG : PySem.W.DilG es s.heap.objs.size h' as) (hacc : acc.toList = as.map Value.ref) :
    H s.heap.objs.size = none ∧ (∀ t ∈ as, H t = none) ∧ as.Nodup ∧ s.heap.objs.size ∉ as ∧ Inv X pins σ (upd (putT2 H as ps) s.heap.objs.size (.lst (as.map V.ref))) { s with heap := h', toks := tk } := by
  have hSn : s.heap.objs.size ∉ as := fun z => Nat.lt_irrefl _ (hG.above _ z)
  have nd : as.Nodup := List.Pairwise.imp (fun {a b} (h : a < b) => Nat.ne_of_lt h) hG.rise
  have new : ∀ t ∈ as, H t = none := fun t ht => I.hok.fresh (Nat.le_of_lt (hG.above t ht))
  have newS : H s.heap.objs.size = none := I.hok.fresh (Nat.le_refl _)
  have atP := putT2_at as ps H (by omega) nd
  have eS : upd (putT2 H as ps) s.heap.objs.size (.lst (as.map V.ref)) s.heap.objs.size = some (.lst (as.map V.ref)) := upd_same
  have at2 : ∀ b, b ≠ s.heap.objs.size → upd (putT2 H as ps) s.heap.objs.size (.lst (as.map V.ref)) b = putT2 H as ps b := fun b h => upd_ne h
  have off : ∀ b, b ∉ as → b ≠ s.heap.objs.size → upd (putT2 H as ps) s.heap.objs.size (.lst (as.map V.ref)) b = H b := fun b h1 h2 => by rw [at2 b h2, putT2_off as ps _ h1]
  have low : ∀ b o, s.heap.get? b = some o → b ∉ as ∧ b ≠ s.heap.objs.size := fun b o e => ⟨fun z => absurd (Heap.lt_size e) (Nat.not_lt.mpr (Nat.le_of_lt (hG.above b z))), Nat.ne_of_lt (Heap.lt_size e)⟩
  have kp : ∀ b u, H b = some u → (upd (putT2 H as ps) s.heap.objs.size (.lst (as.map V.ref))) b = some u := fun b u e => by
    rw [off b (fun z => by rw [new b z] at e; cases e) (fun z => by rw [z, newS] at e; cases e)]
    exact e
  refine ⟨newS, new, nd, hSn, ?_⟩
  refine I.call' (ch := []) rfl ⟨fun b o q _ _ _ => hk b o q, fun b o q _ _ _ => ⟨o.slots, hk b o q⟩, fun b o q n _ => ?_, fun b o q _ => ⟨o, hk b o q⟩, fun b xs q => kp b _ q, fun b o u q => kp b _ q, fun b ps q => ⟨#[], by rw [kp b _ q]; simp⟩⟩ (fun b u q => ?_) I.bare fun b z => by simp at z
  · obtain ⟨z1, z2⟩ := low b o q
    rw [off b z1 z2]
    exact n
  · by_cases hb2 : b = s.heap.objs.size
    · rw [hb2] at q ⊢
      rw [eS] at q
      cases q
      refine ⟨by rw [List.length_map]; omega, acc.toList, c, by rw [hacc]; exact LiI.vals_refs as, ?_⟩
      rw [Array.toArray_toList]
      exact hS
    · rw [at2 b hb2] at q
      by_cases hb : b ∈ as
      · obtain ⟨j, pk, e1, e2, e3⟩ := LiI.paired_ix atP hb
        rw [e3] at q
        cases q
        obtain ⟨hj, f3⟩ := hG.pairs j b e1
        obtain ⟨_, r1, r2⟩ := kv j pk e2
        exact ⟨by show 2 ≤ sizeLine; decide, [es[j].key, es[j].val], .cons r1 (.cons r2 .nil), ⟨_, f3, rfl, _, rfl⟩⟩
      · rw [putT2_off as ps _ hb] at q
        exact (I.hok b u q).stay (fun d v _ y => hk d v y) (fun d y => kp d _ y) fun d xs y => kp d _ y
/-- what follows when the pairs ps are laid -/
def LaidT (H : Hp) (Q : VK) (ps : List (V × V)) : Prop := ∀ (p : Addr) (as : List Addr), H p = none → (∀ t ∈ as, H t = none) → as.Nodup → p ∉ as → as.length = ps.length → Q (.ref p) (upd (putT2 H as ps) p (.lst (as.map V.ref)))
def rItems2 : V → Hp → VK → Prop := fun x H Q => ∃ (d : Addr), x = .ref d ∧ ((∃ kvs, Rd H d (.dK kvs) ∧ LaidT H Q (kvs.map fun q => (kV q.1, q.2))) ∨
  ∃ kvs, Rd H d (.dT kvs) ∧ ∀ ps, Paired (fun (p : V × V) (q : List L2.Key × V) => ∃ b, p = (.ref b, q.2) ∧ H b = some (.tup (q.1.map kV))) ps kvs → LaidT H Q ps)
theorem raw_items {pins : List (Addr × Obj)} {σ : L2.St} {H : Hp} {s : Shared} {x : V} {Q : VK} (I : Inv X pins σ H s) (h : rItems2 x H Q) :
    ∃ (d : Addr) (es : Array DictEntry) (ep : Nat) (ps : List (V × V)), x = .ref d ∧ (d == sysModules) = false ∧ s.heap.DictRaw d es ep ∧ es.size ≤ sizeLine ∧ ps.length = es.size ∧
      (∀ (j : Nat) (p : V × V), ps[j]? = some p → ∃ hj : j < es.size, RelV p.1 es[j].key ∧ RelV p.2 es[j].val) ∧ LaidT H Q ps := by
  obtain ⟨d, rfl, h⟩ := h
  rcases h with ⟨kvs, rd, q⟩ | ⟨kvs, rd, q⟩
  · obtain ⟨z, hs, vs, kv, dd⟩ := dk_rd I.hok rd
    obtain ⟨es, ep, hr, hsz, he⟩ := dd.raw
    have lk : kvs.length = vs.length := Paired.length kv
    refine ⟨d, es, ep, _, rfl, hs, hr, by omega, by rw [List.length_map]; omega, fun j p hp => ?_, q⟩
    obtain ⟨⟨k, v⟩, hk, rfl⟩ := map_get hp
    obtain ⟨u, hu, ru⟩ := kv_get kv hk
    have hj : j < es.size := by rw [hsz]; exact lt_of_get hu
    obtain ⟨e1, e2⟩ := he j hj k u hu
    exact ⟨hj, relV_key (show keyIs k es[j].key = true from e1), by rw [e2]; exact ru⟩
  · obtain ⟨z, hs, xs, kt, dd⟩ := dt_rd I.hok rd
    obtain ⟨es, ep, hr, hsz, he⟩ := dd.raw
    have lk : kvs.length = xs.length := Paired.length kt
    have mk : ∀ {kvs : List (List L2.Key × V)} {xs : List (List L2.Key × Addr × Value)}, KT H kvs xs → ∃ ps : List (V × V), Paired (fun (p : V × V) (q : List L2.Key × V) => ∃ b, p = (.ref b, q.2) ∧ H b = some (.tup (q.1.map kV))) ps kvs ∧ ps.length = xs.length ∧
        ∀ (j : Nat) (p : V × V), ps[j]? = some p → ∃ y, xs[j]? = some y ∧ p.1 = .ref y.2.1 ∧ RelV p.2 y.2.2 := fun h => by
      induction h with
      | nil => exact ⟨[], .nil, rfl, fun j p e => by simp at e⟩
      | @cons a b l m h t ih =>
        obtain ⟨ps, h1, h2, h3⟩ := ih
        refine ⟨(.ref b.2.1, a.2) :: ps, .cons ⟨b.2.1, rfl, h.2.1⟩ h1, by simp [h2], fun j p e => ?_⟩
        cases j with
        | zero => simp at e; subst e; exact ⟨b, rfl, rfl, h.2.2⟩
        | succ j => exact h3 j p (by simpa using e)
    obtain ⟨ps, h1, h2, h3⟩ := mk kt
    refine ⟨d, es, ep, ps, rfl, hs, hr, by omega, by omega, fun j p hp => ?_, q ps h1⟩
    obtain ⟨y, hy, e1, r2⟩ := h3 j p hp
    have hj : j < es.size := by rw [hsz]; exact lt_of_get hy
    obtain ⟨y', hy', k1, k2, _⟩ := he j hj
    rw [hy] at hy'
    cases hy'
    exact ⟨hj, by rw [e1, k1]; exact rfl, by rw [k2]; exact r2⟩
/-- list(e.items()) -/
theorem pe_listItems2 (hc : X.calm = true) (he : PE X e te) (hg : Gl X "list") (hm : X.mg "list" = none) (hv : bootBuiltins "list" = some (.type "list")) (hbase : attributeBase e "items" X.env (eval e X.env) = eval e X.env) (hline : (apos.endLine == cpos.line) = true) :
    PE X (.Call (.Name "list" p) [.Call (.Attribute e "items" apos) [] [] cpos] [] pos) (fun σ H Q => te σ H fun x H1 => rItems2 x H1 Q) := by
  have hs : starEach [.Call (.Attribute e "items" apos) [] [] cpos] X.env = (false, eval (.Call (.Attribute e "items" apos) [] [] cpos) X.env) :: starEach [] X.env := rfl
  refine ⟨fun pins s σ H Q I hq => ?_⟩
  refine wpAny_Call_Name_kw (ld_blt I hg hm hv ?_)
  refine PyProof.Rows.callWith_type1 ?_ hs rfl
  rw [hs]
  show wpAny _ _ (spliced ((false, eval (.Call (.Attribute e "items" apos) [] [] cpos) X.env) :: backTo pos (starEach [] X.env))) _ _ s
  refine Calls.spliced_cons ?_
  refine wpAny_Call_method (T := "dict") (id := "dict.items") hbase rfl hline F.plainAttrs_dict F.slot_dict_items F.type_dict_items (thn (he.run pins s σ H _ I hq) fun u s1 ⟨x, H1, I1, rx, q⟩ => ?_)
  obtain ⟨d, es, ep, ps, rfl, hs0, hr, hz, hl, hp, q⟩ := raw_items I1 q
  obtain rfl : u = Value.ref d := rx
  have I2 : Inv X pins σ H1 { s1 with heap := s1.heap.push { cls := .type "dict_items", data := .fields #[.ref d] } } := I1.kept (t' := s1.toks) fun b ob q => Heap.get?_push_of_some _ q
  refine ⟨hr.typeIs, raw_noDict hr, ?_⟩
  show wpAny _ _ (callWith cpos (.builtin "dict.items") [.ref d] [] []) _ X.xe s1
  refine method_meetsIn F.slot_dict_items F.entry_dict_items rfl (PySem.evalArgs_none ⟨rfl, hr.typeIs, F.args_dict_items_1 _, _, meets_dict_items_raw d hs0, ⟨es, ep, hr⟩, ?_⟩)
  refine Calls.spliced_nil ?_
  refine PySem.W.dil_call (es := es) (ep := ep) (I1.ok.hd hc) ⟨_, Heap.get?_push_size _ rfl, rfl, rfl⟩ (hr.push _) hz fun h' tk acc c as hk hS hl2 hG hacc => ?_
  obtain ⟨k1, k2, k3, k4, J⟩ := items_laid2 (tk := tk) I2 (by omega) hp hl hk hS hl2 hG hacc
  exact ⟨.ref _, _, J, rfl, q _ as k1 k2 k3 k4 (by omega)⟩
end
section
variable {X : Cx} {G : Gx} {R : List Addr} {s : Sto} {ι : List Addr}
theorem putT2_step : ∀ {as : List Addr} {ps : List (V × V)} {H : Hp}, Sim G R s ι H → (∀ t ∈ as, H t = none) → as.Nodup → as.length = ps.length → Step G R s ι H s ι (putT2 H as ps)
  | [], [], H, S, _, _, _ => Step.refl S
  | [], _ :: _, H, S, _, _, h => by cases h
  | _ :: _, [], H, S, _, _, h => by cases h
  | a :: as, p :: ps, H, S, hn, nd, hl => by
    have nd' := List.nodup_cons.mp nd
    have T1 : Step G R s ι H s ι (upd H a (.tup [p.1, p.2])) := Step.laid S (hn a List.mem_cons_self)
    refine T1.trans (putT2_step (as := as) (ps := ps) T1.sim (fun t ht => ?_) nd'.2 (Nat.succ.inj hl))
    rw [upd_ne (fun z => nd'.1 (by rw [← z]; exact ht))]
    exact hn t (List.mem_cons_of_mem _ ht)
theorem denl_pairs {F : Fz} {H' : Hp} (hF : ∀ a vs, H' a = some (.tup vs) → F a (.tup vs)) : ∀ {kvs : List (W × W)} {ps : List (V × V)} {as : List Addr}, Paired (fun (t : Addr) (p : V × V) => H' t = some (.tup [p.1, p.2])) as ps →
    Paired (fun (k : W × W) (p : V × V) => Den G F ι k.1 p.1 ∧ Den G F ι k.2 p.2) kvs ps → DenL G F ι (kvs.map fun k => .tup [k.1, k.2]) (as.map V.ref)
  | [], _, _, h1, .nil => by cases h1; exact DenL.nil
  | k :: kvs, _, _, h1, .cons d t => by
    cases h1 with
    | cons h1 t1 =>
      refine DenL.cons ?_ (denl_pairs hF t1 t)
      simp only [Den]
      exact ⟨_, _, rfl, hF _ _ h1, DenL.cons d.1 (DenL.cons d.2 DenL.nil)⟩
theorem items_map (kvs : List (Ky × W)) : itemsV kvs = (kvs.map fun p => (kyW p.1, p.2)).map fun k => .tup [k.1, k.2] := by
  unfold itemsV
  rw [List.map_map]
  rfl
theorem pairsK_den {F : Fz} : ∀ {kvs : List (Ky × W)} {q : List (L2.Key × V)}, DenDK G F ι kvs q → Paired (fun (k : W × W) (p : V × V) => Den G F ι k.1 p.1 ∧ Den G F ι k.2 p.2) (kvs.map fun p => (kyW p.1, p.2)) (q.map fun q => (kV q.1, q.2))
  | [], q, d => by simp only [DenDK] at d; subst d; exact .nil
  | (.many ks, x) :: r, q, d => by simp only [DenDK] at d
  | (.one k, x) :: r, q, d => by
    simp only [DenDK] at d
    obtain ⟨v, z, rfl, d1, d2⟩ := d
    refine .cons ⟨?_, d1⟩ (pairsK_den d2)
    show Den G F ι (k1W k) (kV (k1K k))
    rw [kV_k1K]
    exact den_k1 k
theorem pairsT_den {H : Hp} (S : Sim G R s ι H) : ∀ {kvs : List (Ky × W)} {q : List (List L2.Key × V)} {ps : List (V × V)}, DenDT G (FzH G R s ι H) ι kvs q → Paired (fun (p : V × V) (q : List L2.Key × V) => ∃ b, p = (.ref b, q.2) ∧ H b = some (.tup (q.1.map kV))) ps q →
    Paired (fun (k : W × W) (p : V × V) => Den G (FzH G R s ι H) ι k.1 p.1 ∧ Den G (FzH G R s ι H) ι k.2 p.2) (kvs.map fun p => (kyW p.1, p.2)) ps
  | [], q, ps, d, h => by simp only [DenDT] at d; subst d; cases h; exact .nil
  | (.one ks, x) :: r, q, ps, d, h => by simp only [DenDT] at d
  | (.many k, x) :: r, q, ps, d, h => by
    simp only [DenDT] at d
    obtain ⟨v, z, rfl, d1, d2⟩ := d
    cases h with
    | cons h t =>
      obtain ⟨b, rfl, hb⟩ := h
      exact .cons ⟨den_key S hb, d1⟩ (pairsT_den S d2 t)
theorem paired_mono {α β : Type} {F F' : α → β → Prop} (h : ∀ a b, F a b → F' a b) : ∀ {xs : List α} {ys : List β}, Paired F xs ys → Paired F' xs ys
  | _, _, .nil => .nil
  | _, _, .cons a t => .cons (h _ _ a) (paired_mono h t)
variable {Wx : WX} {a : PySem.Expr} {ra : Env → M W} {p apos cpos pos : Pos}
theorem pe_litemsW {m : Bool} (hc : X.calm = true) (ha : PE X a (tE G Wx ra)) (hg : Gl X "list") (hm : X.mg "list" = none) (hba : baseX a = true) (hl : (apos.endLine == cpos.line) = true) :
    PE X (.Call (.Name "list" p) [.Call (.Attribute a "items" apos) [] [] cpos] [] pos) (tE G Wx fun ρ => M.bind (ra ρ) fun x => M.bind (fun s => M.of (dctOf s x) s) fun kvs => M.op (mkL m (itemsV kvs))) := by
  refine PE.imp (pe_listItems2 hc ha hg hm rfl (base_ok hba) hl) fun σ H Q ⟨R, s, ι, ρ, S, D, P⟩ => ?_
  refine ⟨R, s, ι, ρ, S, D, P.bind.mono fun u s1 ι1 H1 T1 P1 v d => ?_⟩
  obtain ⟨kvs, ed, P2⟩ := (P1.bind).of T1.sim
  obtain ⟨w, s2, e2, K⟩ := P2.op
  obtain ⟨p0, o, rfl, ⟨rd, _⟩, dd⟩ := dct_den T1.sim d ed
  have fin : ∀ ps, Paired (fun (k : W × W) (p : V × V) => Den G (FzH G R s1 ι1 H1) ι1 k.1 p.1 ∧ Den G (FzH G R s1 ι1 H1) ι1 k.2 p.2) (kvs.map fun p => (kyW p.1, p.2)) ps → LaidT H1 Q ps := fun ps pr p as hp hn nd hpa hl => by
    have T := putT2_step (G := G) (R := R) (s := s1) (ι := ι1) (as := as) (ps := ps) T1.sim hn nd hl
    have hp2 : putT2 H1 as ps p = none := by rw [putT2_off as ps _ hpa]; exact hp
    have dl := denl_pairs (G := G) (ι := ι1) (F := FzH G R s1 ι1 (putT2 H1 as ps)) (H' := putT2 H1 as ps) (fun a vs h => FzH.tup T.sim h) (putT2_at as ps H1 hl nd) (paired_mono (fun _ _ h => ⟨T.den h.1, T.den h.2⟩) pr)
    rw [← items_map] at dl
    obtain ⟨_, mk⟩ := mkL_ok T.sim e2
    obtain ⟨ι', T', d'⟩ := mk p _ hp2 dl
    exact K ι' _ (T.trans T') _ d'
  rcases dd.dk with ⟨q, rfl, dq⟩ | ⟨q, rfl, dq⟩
  · exact ⟨p0, rfl, .inl ⟨q, rd, fin _ (pairsK_den dq)⟩⟩
  · exact ⟨p0, rfl, .inr ⟨q, rd, fun ps h => fin ps (pairsT_den T1.sim dq h)⟩⟩
end
end Mn

end

section
set_option Elab.async false
set_option linter.all false
set_option maxRecDepth 100000
set_option maxHeartbeats 2000000
/-! Mini: x in d.values(). -/
namespace Mn
open PySem PySem.Spec PyProof.Rows L2
theorem plain_contains_iter : plainId "proto.contains_iter" = true := by decide +kernel
theorem entry_contains_iter : entryFor table "proto.contains_iter" = some Builtin.«proto.contains_iter» := entryFor_of_fast (by kernel_rfl)
theorem no_contains : typeLookup (.type "dict_values") "__contains__" = pure none := PySem.am_miss_of_fast (by decide +kernel)
section
variable {prog : Program} {w : World} {A : Around} {E : Value → Shared → Prop}
theorem ci_loop {R : Result → Shared → Prop} {it d : Addr} {es : Array DictEntry} {ep : Nat} {is : List Int} {n : Int} {u : Tok} (hne : d ≠ it) (hh : A.handled = none) (hl : is.length = es.size) (hv : ∀ (j : Nat) (hj : j < es.size) (k : Int), is[j]? = some k → ∃ t, es[j].val = .int k t) :
    ∀ (m i : Nat) (s : Shared), m = es.size - i → i ≤ es.size → s.heap.IsValIter it d i es.size ep → s.heap.DictRaw d es ep →
      (∀ h', (∀ b o, b ≠ it → s.heap.get? b = some o → h'.get? b = some o) → R (.ok (.ret (.bool ((is.drop i).any fun j => decide (j = n))))) { s with heap := h' }) →
      codeAny (model prog w) A (.builtin "proto.contains_iter" ⟨[.ref it, .int n u], []⟩) R s
  | 0, i, s, hm, hi, st, D, h => by
    have e : i = es.size := by omega
    subst e
    refine codeAny_builtin entry_contains_iter ?_
    rw [Around.under_plainId plain_contains_iter _]
    show wpAny _ A.in1 (pyNext (.ref it) >>= _) _ _ s
    refine wpAny_bind (wpAny_pyNext_values_end_raw (A := A.in1) hh st D (Nat.le_refl _) fun h' eb => ?_)
    refine wpAny_bind (wpAny_rule ?_)
    have q := h h' fun b o hb e => eb b o hb e
    rw [← hl, List.drop_length] at q
    exact wpAny_pure q
  | m + 1, i, s, hm, hi, st, D, h => by
    have hlt : i < es.size := by omega
    obtain ⟨k, hk⟩ : ∃ k, is[i]? = some k := ⟨is[i]'(by omega), List.getElem?_eq_getElem (by omega)⟩
    obtain ⟨t, ev⟩ := hv i hlt k hk
    have ed : is.drop i = k :: is.drop (i + 1) := by
      rw [List.drop_eq_getElem_cons (by omega)]
      rw [List.getElem?_eq_getElem (by omega)] at hk
      rw [Option.some.inj hk]
    refine codeAny_builtin entry_contains_iter ?_
    rw [Around.under_plainId plain_contains_iter _]
    show wpAny _ A.in1 (pyNext (.ref it) >>= _) _ _ s
    refine wpAny_bind (wpAny_pyNext_values_item_raw (A := A.in1) st D hlt fun h' st' sb => ?_)
    rw [ev]
    refine wpAny_bind (wpAny_eqBool_int ?_)
    have D' : h'.DictRaw d es ep := D.at fun o e => (sb.2 d hne).trans e
    by_cases q : (k == n) = true
    · rw [if_pos q]
      refine wpAny_bind (wpAny_rule ?_)
      have z := h h' fun b o hb e => (sb.2 b hb).trans e
      rw [ed, List.any_cons, decide_eq_true (beq_iff_eq.mp q)] at z
      exact wpAny_pure z
    · rw [if_neg q]
      refine wpAny_pure ⟨plainId_quiet plain_contains_iter _, ci_loop hne hh hl hv m (i + 1) _ (by omega) hlt st' D' fun h2 k2 => ?_⟩
      have z := h h2 fun b o hb e => k2 b o hb ((sb.2 b hb).trans e)
      have q' : ¬ k = n := fun z => q (beq_iff_eq.mpr z)
      rw [ed, List.any_cons, decide_eq_false q', Bool.false_or] at z
      exact z
theorem contains_view {s : Shared} {Q : Bool → Shared → Prop} {vw d : Addr} {es : Array DictEntry} {ep : Nat} {is : List Int} {n : Int} {u : Tok} (hh : A.handled = none) (hV : s.heap.IsValuesView vw d) (D : s.heap.DictRaw d es ep) (hl : is.length = es.size) (hv : ∀ (j : Nat) (hj : j < es.size) (k : Int), is[j]? = some k → ∃ t, es[j].val = .int k t)
    (h : ∀ h', (∀ b o, s.heap.get? b = some o → h'.get? b = some o) → Q (is.any fun j => decide (j = n)) { s with heap := h' }) : wpAny (model prog w) A (contains (.ref vw) (.int n u)) Q E s := by
  have hT := hV.typeIs
  unfold contains
  refine wpAny_holding ?_
  rw [stdlibNamesSay?_of_typeIs hT]
  refine wpAny_bind (wpAny_specialOf hT no_contains ?_)
  show wpAny _ _ (if ((none : Option Value) == some Value.none) = true then _ else _) Q E s
  rw [if_neg (by decide)]
  refine wpAny_bind ?_
  simp only [callSpecialUnlessNone?]
  refine wpAny_bind (wpAny_specialOf hT no_contains (wpAny_pure ?_))
  refine wpAny_bind (wpAny_rule ?_)
  refine wpAny_bind (wpAny_tryCatch (wpAny_pyIter_values_raw hV D ?_))
  have hlt : d < s.heap.objs.size := let ⟨o, ho, _⟩ := D; Heap.lt_size ho
  refine wpAny_bind (wpAny_runValue ?_)
  refine ci_loop (is := is) (Nat.ne_of_lt hlt) hh hl hv es.size 0 _ (by omega) (Nat.zero_le _) ⟨_, Heap.get?_push_size _ rfl, rfl, rfl⟩ (D.at fun o e => Heap.get?_push_of_some _ e) fun h' k => ?_
  rw [List.drop_zero]
  exact wpAny_pure (h h' fun b o e => k b o (Nat.ne_of_lt (Heap.lt_size e)) (Heap.get?_push_of_some _ e))
end
section
variable {X : Cx} {G : Gx} {Wx : WX} {a d : PySem.Expr} {ra rd : Env → M W} {pos apos cpos : Pos}
theorem intsOf_get : ∀ {ws : List W} {is : List Int}, intsOf ws = some is → is.length = ws.length ∧ ∀ (j : Nat) (k : Int), is[j]? = some k → ws[j]? = some (.int k)
  | [], is, h => by simp only [intsOf] at h; cases h; exact ⟨rfl, fun j k e => by simp at e⟩
  | w :: r, is, h => by
    cases w with
    | int i =>
      simp only [intsOf] at h
      cases e : intsOf r with
      | none => rw [e] at h; cases h
      | some js =>
        rw [e] at h
        cases h
        obtain ⟨h1, h2⟩ := intsOf_get e
        refine ⟨by simp [h1], fun j k e => ?_⟩
        cases j with
        | zero => simp at e; simp [e]
        | succ j => simpa using h2 j k (by simpa using e)
    | _ => simp [intsOf] at h
theorem vals_raw {pins : List (Addr × Obj)} {σ : L2.St} {R : List Addr} {s : Sto} {ι : List Addr} {H : Hp} {st : Shared} (I : Inv X pins σ H st) {p : Addr} {o : HO} {kvs : List (Ky × W)} (rd : Rd H p o) (dd : DenD G (FzH G R s ι H) ι kvs o) {is : List Int} (hi : intsOf (valsV kvs) = some is) :
    (p == sysModules) = false ∧ ∃ es ep, st.heap.DictRaw p es ep ∧ is.length = es.size ∧ ∀ (j : Nat) (hj : j < es.size) (k : Int), is[j]? = some k → ∃ t, es[j].val = .int k t := by
  obtain ⟨l1, l2⟩ := intsOf_get hi
  have l3 : (valsV kvs).length = kvs.length := by unfold valsV; rw [List.length_map]
  have at_ : ∀ (j : Nat) (k : Int), is[j]? = some k → ∃ ky, kvs[j]? = some (ky, .int k) := fun j k e => by
    obtain ⟨⟨ky, x⟩, hp, ex⟩ := map_get (l2 j k e)
    exact ⟨ky, by rw [hp, ex]⟩
  rcases dd.dk with ⟨q, rfl, dq⟩ | ⟨q, rfl, dq⟩
  · obtain ⟨z, hs, vs, kv, dO⟩ := dk_rd I.hok rd
    obtain ⟨es, ep, hr, hsz, he⟩ := dO.raw
    have lk : q.length = vs.length := Paired.length kv
    have lq := dq.length
    refine ⟨hs, es, ep, hr, by omega, fun j hj k e => ?_⟩
    obtain ⟨ky, hk⟩ := at_ j k e
    obtain ⟨k1, v, _, hq, dv⟩ := dq.get hk
    obtain ⟨u, hu, ru⟩ := kv_get kv hq
    rw [of_int dv] at ru
    obtain ⟨t, rfl⟩ := ru
    exact ⟨t, (he j hj _ _ hu).2⟩
  · obtain ⟨z, hs, xs, kt, dO⟩ := dt_rd I.hok rd
    obtain ⟨es, ep, hr, hsz, he⟩ := dO.raw
    have lk : q.length = xs.length := Paired.length kt
    have lq := dq.length
    refine ⟨hs, es, ep, hr, by omega, fun j hj k e => ?_⟩
    obtain ⟨ky, hk⟩ := at_ j k e
    obtain ⟨k1, v, _, hq, dv⟩ := dq.get hk
    obtain ⟨y, hy, _, _, ru⟩ := paired_get kt hq
    obtain ⟨y', hy', _, e2, _⟩ := he j hj
    rw [hy] at hy'
    cases hy'
    rw [of_int dv] at ru
    obtain ⟨t, e3⟩ := ru
    exact ⟨t, e2.trans e3⟩
def inVM (ra rd : Env → M W) (t : Bool) : Env → M W := fun ρ => M.bind (ra ρ) fun x => M.bind (rd ρ) fun y => M.bind (M.op (inVW x y)) fun b => M.ret (.bl (if b then t else !t))
theorem inV_core {t : Bool} {pins : List (Addr × Obj)} {st : Shared} {σ : L2.St} {H : Hp} {Q : VK} (hc : X.calm = true) (ha : PE X a (tE G Wx ra)) (hd : PE X d (tE G Wx rd)) (hb : baseX d = true) (hl : (apos.endLine == cpos.line) = true) (I : Inv X pins σ H st) (h : tE G Wx (inVM ra rd t) σ H Q) :
    wpAny (model X.prog X.w) X.A (eval a X.env) (fun v s1 => wpAny (model X.prog X.w) X.A (eval (.Call (.Attribute d "values" apos) [] [] cpos) X.env) (fun u s2 => wpAny (model X.prog X.w) X.A (compareOp (if t then .In else .NotIn) v u) (EP X pins σ Q) X.xe s2) X.xe s1) X.xe st := by
  obtain ⟨R, s, ι, ρ, S, D, P⟩ := h
  refine thn (ha.run pins st σ H (fun v H1 => ∃ s1 ι1 x, Step G R s ι H s1 ι1 H1 ∧ Den G (FzH G R s1 ι1 H1) ι1 x v ∧ Post G Wx σ R s1 ι1 H1 (M.bind (rd ρ) (fun y => M.bind (M.op (inVW x y)) fun b => M.ret (.bl (if b then t else !t))) s1) fun w s' ι' H' => ∀ v, Den G (FzH G R s' ι' H') ι' w v → Q v H') I
    ⟨R, s, ι, ρ, S, D, P.bind.mono fun x s1 ι1 H1 T1 P1 v d => ⟨s1, ι1, x, T1, d, P1⟩⟩) fun v st1 ⟨xv, H1, I1, rx, s1, ι1, x, T1, d1, P1⟩ => ?_
  refine wpAny_Call_method (T := "dict") (id := "dict.values") (base_ok hb) rfl hl F.plainAttrs_dict F.slot_dict_values F.type_dict_values (thn (hd.run pins st1 σ H1 (fun v H2 => ∃ s2 ι2 y, Step G R s1 ι1 H1 s2 ι2 H2 ∧ Den G (FzH G R s2 ι2 H2) ι2 y v ∧ Post G Wx σ R s2 ι2 H2 (M.bind (M.op (inVW x y)) (fun b => M.ret (.bl (if b then t else !t))) s2) fun w s' ι' H' => ∀ v, Den G (FzH G R s' ι' H') ι' w v → Q v H') I1
    ⟨R, s1, ι1, ρ, T1.sim, D.step T1, P1.bind.mono fun y s2 ι2 H2 T2 P2 v d => ⟨s2, ι2, y, T2, d, P2⟩⟩) fun u st2 ⟨yv, H2, I2, ry, s2, ι2, y, T2, d2, P2⟩ => ?_)
  obtain ⟨b, s3, e3, K⟩ := P2.bind.op
  unfold inVW at e3
  cases ed : dctOf s2 y with
  | none => rw [ed] at e3; cases e3
  | some kvs =>
    rw [ed] at e3
    cases x with
    | int i =>
      simp only at e3
      cases hi : intsOf (valsV kvs) with
      | none => rw [hi] at e3; cases e3
      | some is =>
      rw [hi] at e3
      cases e3
      obtain ⟨p, o, rfl, ⟨rdp, _⟩, dd⟩ := dct_den T2.sim d2 ed
      obtain rfl : u = Value.ref p := ry
      obtain rfl := of_int (T2.den d1)
      obtain ⟨tk, rfl⟩ := rx
      obtain ⟨hs, es, ep, hr, hlen, hv⟩ := vals_raw I2 rdp dd hi
      have fin := (K ι2 H2 (Step.refl T2.sim)).ret T2.sim _ den_bl
      refine ⟨hr.typeIs, raw_noDict hr, ?_⟩
      have I3 : Inv X pins σ H2 { st2 with heap := st2.heap.push { cls := .type "dict_values", data := .fields #[.ref p] } } := I2.kept (t' := st2.toks) fun b ob q => Heap.get?_push_of_some _ q
      show wpAny _ _ (callWith cpos (.builtin "dict.values") [.ref p] [] []) _ X.xe st2
      refine method_meetsIn F.slot_dict_values F.entry_dict_values rfl (PySem.evalArgs_none ⟨rfl, hr.typeIs, F.args_dict_values_1 _, _, meets_dict_values_raw p hs, ⟨es, ep, hr⟩, ?_⟩)
      have hr2 := hr.push { cls := .type "dict_values", data := .fields #[.ref p] }
      have key : ∀ Q' : Bool → Shared → Prop, (∀ h', (∀ b o, st2.heap.get? b = some o → h'.get? b = some o) → Q' (is.any fun j => decide (j = i)) { st2 with heap := h' }) →
          wpAny (model X.prog X.w) X.A (contains (.ref st2.heap.objs.size) (.int i tk)) Q' X.xe { st2 with heap := st2.heap.push { cls := .type "dict_values", data := .fields #[.ref p] } } := fun Q' hQ =>
        contains_view (I2.ok.hd hc) ⟨_, Heap.get?_push_size _ rfl, rfl, rfl⟩ hr2 hlen hv fun h' k => hQ h' fun b o e => k b o (Heap.get?_push_of_some _ e)
      cases t with
      | true =>
        show wpAny _ _ (do return Value.bool (← contains (.ref st2.heap.objs.size) (.int i tk))) _ _ _
        refine wpAny_bind (key _ fun h' k => wpAny_pure ⟨.bl _, H2, I2.kept (t' := st2.toks) k, rfl, ?_⟩)
        have := fin
        cases q : (is.any fun j => decide (j = i)) <;> rw [q] at this <;> exact this
      | false =>
        show wpAny _ _ (do return Value.bool (!(← contains (.ref st2.heap.objs.size) (.int i tk)))) _ _ _
        refine wpAny_bind (key _ fun h' k => wpAny_pure ⟨.bl _, H2, I2.kept (t' := st2.toks) k, rfl, ?_⟩)
        have := fin
        cases q : (is.any fun j => decide (j = i)) <;> rw [q] at this <;> exact this
    | _ => cases e3
theorem pe_inVW {t : Bool} (hc : X.calm = true) (ha : PE X a (tE G Wx ra)) (hd : PE X d (tE G Wx rd)) (hb : baseX d = true) (hl : (apos.endLine == cpos.line) = true) :
    PE X (.Compare a [if t then .In else .NotIn] [.Call (.Attribute d "values" apos) [] [] cpos] pos) (tE G Wx (inVM ra rd t)) :=
  ⟨fun pins st σ H Q I h => wpAny_Compare1 (inV_core hc ha hd hb hl I h) rfl⟩
theorem Post.bindE {σ : L2.St} {R : List Addr} {s : Sto} {ι : List Addr} {H : Hp} {α β : Type} {m : M α} {f : α → M β} {K : β → Sto → List Addr → Hp → Prop} (h : Post G Wx σ R s ι H (M.bind m f s) K) : Post G Wx σ R s ι H (m s) (fun a s' ι' H' => m s = some (.ok a, s') ∧ Post G Wx σ R s' ι' H' (f a s') K) := by
  have h' := Post.bind h
  cases e : m s with
  | none => rw [e] at h'; exact h'
  | some p =>
    obtain ⟨q, s'⟩ := p
    rw [e] at h'
    cases q with
    | error x => exact h'
    | ok a => exact fun ι' H' T => ⟨rfl, h' ι' H' T⟩
theorem inVM_bl {t : Bool} {ρ : Env} {s s' : Sto} {w : W} (h : inVM ra rd t ρ s = some (.ok w, s')) : ∃ b, w = .bl b := by
  obtain ⟨x, s1, _, h⟩ := bind_ok h
  obtain ⟨y, s2, _, h⟩ := bind_ok h
  obtain ⟨b, s3, _, h⟩ := bind_ok h
  cases h
  exact ⟨_, rfl⟩
theorem pt_inVW {t : Bool} (hc : X.calm = true) (ha : PE X a (tE G Wx ra)) (hd : PE X d (tE G Wx rd)) (hb : baseX d = true) (hl : (apos.endLine == cpos.line) = true) :
    PT X (.Compare a [if t then .In else .NotIn] [.Call (.Attribute d "values" apos) [] [] cpos] pos) (tT G Wx fun ρ => M.bind (inVM ra rd t ρ) M.tru) := by
  refine ⟨fun pins st σ H Q I ⟨R, s, ι, ρ, S, D, P⟩ => ?_⟩
  have h : tE G Wx (inVM ra rd t) σ H fun v H1 => ∃ k, v = .bl k ∧ Q k H1 := by
    refine ⟨R, s, ι, ρ, S, D, P.bindE.mono fun w s1 ι1 H1 T1 ⟨ew, P1⟩ v dv => ?_⟩
    obtain ⟨b, rfl⟩ := inVM_bl ew
    obtain ⟨k, e, q⟩ := P1.tru T1.sim
    simp only [truW] at e
    cases e
    exact ⟨_, of_bl dv, q⟩
  refine wpAny_isTrue_Compare1 (thn (inV_core hc ha hd hb hl I h) fun v s1 h1 => thn h1 fun u s2 h2 => thn h2 fun c s3 ⟨x, H1, I1, r1, k, e, q1⟩ => ?_) rfl
  subst e
  cases r1
  exact wpAny_truthy_bool ⟨H1, I1, q1⟩
end
end Mn

end

section
set_option Elab.async false
set_option linter.all false
set_option maxRecDepth 100000
set_option maxHeartbeats 2000000
/-! Mini: sorts. -/
namespace Mn
open PySem PySem.Spec PyProof.Rows L2
/-! ### in order -/
structure Ord {α : Type} (lt : α → α → Bool) : Prop where
  asym : ∀ a b, lt a b = true → lt b a = false
  tr : ∀ a b c, lt b a = false → lt c b = false → lt c a = false
  tot : ∀ a b, lt a b = false → lt b a = false → a = b
section
variable {α : Type} {lt : α → α → Bool}
abbrev Up (lt : α → α → Bool) (l : List α) : Prop := l.Pairwise fun a b => lt b a = false
theorem insB_perm (t : α) : ∀ r, (insB lt t r).Perm (t :: r)
  | [] => .refl _
  | u :: r => by
    unfold insB
    by_cases c : lt u t = true
    · rw [if_pos c]
      exact ((insB_perm t r).cons u).trans (.swap _ _ _)
    · rw [if_neg c]
theorem sortB_perm : ∀ r : List α, (sortB lt r).Perm r
  | [] => .refl _
  | i :: r => (insB_perm i _).trans ((sortB_perm r).cons i)
theorem insB_up (O : Ord lt) (t : α) : ∀ r : List α, Up lt r → Up lt (insB lt t r)
  | [], _ => by simp [insB]
  | u :: r, h => by
    unfold insB
    have h' := List.pairwise_cons.mp h
    by_cases c : lt u t = true
    · rw [if_pos c]
      refine List.pairwise_cons.mpr ⟨fun y hy => ?_, insB_up O t r h'.2⟩
      rcases List.mem_cons.mp ((insB_perm t r).mem_iff.mp hy) with rfl | hy
      · exact O.asym _ _ c
      · exact h'.1 y hy
    · rw [if_neg c]
      have c' : lt u t = false := by simpa using c
      refine List.pairwise_cons.mpr ⟨fun y hy => ?_, h⟩
      rcases List.mem_cons.mp hy with rfl | hy
      · exact c'
      · exact O.tr _ _ _ c' (h'.1 y hy)
theorem sortB_up (O : Ord lt) : ∀ r : List α, Up lt (sortB lt r)
  | [] => .nil
  | i :: r => insB_up O i _ (sortB_up O r)
theorem up_one (O : Ord lt) {a b : List α} (p : a.Perm b) (h : Up lt a) (k : Up lt b) : a = b := List.Perm.eq_of_pairwise (fun x y _ _ h1 h2 => O.tot _ _ h2 h1) h k p
theorem sortB_is (O : Ord lt) {a b : List α} (p : a.Perm b) (h : Up lt a) : a = sortB lt b := up_one O (p.trans (sortB_perm b).symm) h (sortB_up O b)
theorem ord_key (K : KeyOrd) : Ord K.blt := ⟨fun a b h => KeyOrd.klt_asymm h, fun a b c h1 h2 => KeyOrd.kle_trans h1 h2, fun a b h1 h2 => K.total a b h1 h2⟩
theorem k1S_inj : ∀ {a b : K1}, k1S a = k1S b → a = b
  | .int i, .int j, h => by cases h; rfl
  | .str i, .str j, h => by cases h; rfl
  | .int i, .str j, h => by cases h
  | .str i, .int j, h => by cases h
theorem k1Ss_inj : ∀ {a b : List K1}, a.map k1S = b.map k1S → a = b
  | [], [], _ => rfl
  | [], _ :: _, h => by cases h
  | _ :: _, [], h => by cases h
  | a :: as, b :: bs, h => by
    simp only [List.map_cons, List.cons.injEq] at h
    rw [k1S_inj h.1, k1Ss_inj h.2]
theorem ord_ks : Ord ltKs := by
  have K := ord_key (listOrd itemOrd)
  exact ⟨fun a b h => K.asym _ _ h, fun a b c h1 h2 => K.tr _ _ _ h1 h2, fun a b h1 h2 => k1Ss_inj (K.tot _ _ h1 h2)⟩
theorem ord_str : Ord strKind.blt := ord_key strKind.toKeyOrd
end
/-! ### tuples, collected and sorted -/
section
variable {prog : Program} {w : World} {A : Around} {E : Value → Shared → Prop} {s : Shared}
abbrev KL := List (Int ⊕ List Nat)
def keyV (h : Heap) (sh : Nat → Bool) (v : Value) : KL := (tupKey h sh v).getD []
theorem tupKey_keep {h h' : Heap} {sh : Nat → Bool} {v : Value} {l : KL} (e : tupKey h sh v = some l) (k : ∀ a o, v = .ref a → h.get? a = some o → h'.get? a = some o) : tupKey h' sh v = some l := by
  obtain ⟨a, o, xs, n, rfl, ho, hd, hi⟩ := tupKey_some e
  simp only [tupKey, k a o rfl ho, hd]
  exact hi
theorem swo_key (f : Value → KL) : SrtO.Swo fun v u => lexLt itemOrd (f v) (f u) := by
  have K := ord_key (listOrd itemOrd)
  exact ⟨fun x y h => K.asym _ _ h, fun x y z h1 h2 => K.tr _ _ _ h1 h2⟩
/-- what is known of the collected ones -/
structure TupsK (h : Heap) (sh : Nat → Bool) (vs : List Value) : Prop where
  key : ∀ v ∈ vs, ∃ l, tupKey h sh v = some l
  fst : ∃ fs, TupsOf h sh vs fs
theorem tupOf_keep {h h' : Heap} {sh : Nat → Bool} {v f : Value} (x : TupOf h sh v f) (k : ∀ a o, v = .ref a → h.get? a = some o → h'.get? a = some o) : TupOf h' sh v f := by
  obtain ⟨a, o, xs, n, rfl, ho, r⟩ := x
  exact ⟨a, o, xs, n, rfl, k a o rfl ho, r⟩
theorem tupsOf_keep {h h' : Heap} {sh : Nat → Bool} : ∀ {vs fs : List Value}, TupsOf h sh vs fs → (∀ v ∈ vs, ∀ a o, v = .ref a → h.get? a = some o → h'.get? a = some o) → TupsOf h' sh vs fs
  | _, _, .nil, _ => .nil
  | _, _, .cons x r, k => .cons (tupOf_keep x (k _ List.mem_cons_self)) (tupsOf_keep r fun v hv => k v (List.mem_cons_of_mem _ hv))
theorem tupsOf_len {h : Heap} {sh : Nat → Bool} : ∀ {vs fs : List Value}, TupsOf h sh vs fs → fs.length = vs.length
  | _, _, .nil => rfl
  | _, _, .cons x r => by simp [tupsOf_len r]
theorem tups_sortable {a : Addr} {vs : List Value} {sh : Nat → Bool} (h0 : 0 < vs.length) (hp : TupsK s.heap sh vs) (ha : ∀ v ∈ vs, v ≠ .ref a) : SrtO.SortableO prog w A s a vs fun v u => lexLt itemOrd (keyV s.heap sh v) (keyV s.heap sh u) := by
  intro h' keep
  have kp : ∀ v ∈ vs, ∀ b o, v = .ref b → s.heap.get? b = some o → h'.get? b = some o := fun v hv b o e h => keep b o (fun z => ha v hv (by rw [e, z])) h
  obtain ⟨fs, hf⟩ := hp.fst
  have hf' := tupsOf_keep hf kp
  refine ⟨tuples' true, fun Q E hq => tup_kind (s := { s with heap := h' }) (by rw [tupsOf_len hf]; exact h0) hf' hq, fun p q hm hm' => ?_⟩
  obtain ⟨l1, e1⟩ := hp.key _ hm
  obtain ⟨l2, e2⟩ := hp.key _ hm'
  have e1' := tupKey_keep e1 (kp _ hm)
  have e2' := tupKey_keep e2 (kp _ hm')
  show wpAny (model prog w) A (keyLt' (tuples' true) p.1 q.1) (fun r s' => s' = { s with heap := h' } ∧ r = lexLt itemOrd (keyV s.heap sh p.1) (keyV s.heap sh q.1)) (fun _ _ => False) { s with heap := h' }
  refine tup_ltAt (s := { s with heap := h' }) (shape := sh) true A _ p.1 q.1 l1 l2 e1' e2' ⟨rfl, ?_⟩
  show lexLt itemOrd l1 l2 = _
  unfold keyV
  rw [e1, e2]
  rfl
theorem sorted_tups {x : Value} {vs : List Value} {sh : Nat → Bool} {Q : Value → Shared → Prop} (hp : TupsK s.heap sh vs) (hz : vs.length ≤ sizeLine) (hr : ∀ v ∈ vs, ∃ a o, v = .ref a ∧ s.heap.get? a = some o)
    (hcol : ∀ R : List Value → Shared → Prop, (∀ h' tk, (∀ b o, s.heap.get? b = some o → h'.get? b = some o) → R vs { s with heap := h', toks := tk }) → wpAny (model prog w) A.in1 (collect x) R E s)
    (h : ∀ (h1 h' : Heap) (tk : Nat) (out : List Value), SrtO.Srtd (fun v u => lexLt itemOrd (keyV s.heap sh v) (keyV s.heap sh u)) out → out.Perm vs → (∀ b o, s.heap.get? b = some o → h1.get? b = some o) → (∀ b o, h1.get? b = some o → h'.get? b = some o) → (∃ n, h'.get? h1.objs.size = some (seqObj "list" out.toArray n)) → Q (.ref h1.objs.size) { s with heap := h', toks := tk }) :
    wpAny (model prog w) A (call (.builtin "sorted") [x]) Q E s := by
  refine Calls.call_function_entry kind_sorted plain_sorted entry_sorted (args_sorted1 _) ?_
  unfold Builtin.«sorted»
  refine wpAny_bind (m := checkCount "sorted" 1 1 _) (wpAny_pure ?_)
  refine wpAny_bind (hcol _ fun h1 tk kp => ?_)
  refine wpAny_bind (wpAny_newList ?_ hz)
  have hoL : (h1.push (seqObj "list" vs.toArray 0)).get? h1.objs.size = some (seqObj "list" vs.toArray 0) := Heap.get?_push_size _ rfl
  show wpAny _ _ _ _ _ { s with heap := h1.push (seqObj "list" vs.toArray 0), toks := tk }
  have kp2 : ∀ b o, s.heap.get? b = some o → (h1.push (seqObj "list" vs.toArray 0)).get? b = some o := fun b o e => Heap.get?_push_of_some _ (kp b o e)
  have hp2 : TupsK (h1.push (seqObj "list" vs.toArray 0)) sh vs := by
    refine ⟨fun v hv => ?_, ?_⟩
    · obtain ⟨l, e⟩ := hp.key v hv
      exact ⟨l, tupKey_keep e fun a o _ e => kp2 a o e⟩
    · obtain ⟨fs, hf⟩ := hp.fst
      exact ⟨fs, tupsOf_keep hf fun v _ a o _ e => kp2 a o e⟩
  have same : ∀ v ∈ vs, keyV (h1.push (seqObj "list" vs.toArray 0)) sh v = keyV s.heap sh v := fun v hv => by
    obtain ⟨l, e⟩ := hp.key v hv
    unfold keyV
    rw [e, tupKey_keep e fun a o _ e => kp2 a o e]
  refine wpAny_bind (wpAny_holding (wpAny_call_entry slot_list_sort ⟨_, hoL, rfl⟩ entry_list_sort (SrtO.list_sort_ord (s := { s with heap := h1.push (seqObj "list" vs.toArray 0), toks := tk }) (swo_key (keyV (h1.push (seqObj "list" vs.toArray 0)) sh)) hoL hz
    (fun h2 => tups_sortable (s := { s with heap := h1.push (seqObj "list" vs.toArray 0), toks := tk }) (by omega) hp2 fun v hv z => ?_) fun out hs hb => ⟨_, rfl, ?_⟩) (args_list_sort _)))
  · obtain ⟨a, o, e, ho⟩ := hr v hv
    rw [e] at z
    have z' := Value.ref.inj z
    have := Heap.lt_size (kp a o ho)
    rw [z'] at this
    exact Nat.lt_irrefl _ this
  · obtain ⟨e', he'⟩ := sortedHeap_at (vs := vs) (out := out.toArray) hoL
    refine wpAny_pure ⟨_, rfl, h h1 _ tk out ?_ hb.perm kp (fun b o e => ?_) ⟨e', he'⟩⟩
    · refine List.Pairwise.imp_of_mem (fun {a b} ha hb' hab => ?_) hs
      show lexLt itemOrd (keyV s.heap sh b) (keyV s.heap sh a) = false
      rw [← same a (hb.perm.mem_iff.mp ha), ← same b (hb.perm.mem_iff.mp hb')]
      exact hab
    · have hlt : b < h1.objs.size := Heap.lt_size e
      rw [sortedHeap_old (Nat.ne_of_lt hlt) (by rw [size_push']; exact Nat.lt_succ_of_lt hlt)]
      exact Heap.get?_push_of_some _ e
end
end Mn

end

section
set_option Elab.async false
set_option linter.all false
set_option maxRecDepth 100000
set_option maxHeartbeats 2000000
/-! Mini: sorts as rules. -/
namespace Mn
open PySem PySem.Spec PyProof.Rows L2
def sK : Int ⊕ List Nat → K1
  | .inl i => .int i
  | .inr s => .str s
theorem sK_k1S (k : K1) : sK (k1S k) = k := by cases k <;> rfl
theorem sK_map (k : List K1) : (k.map k1S).map sK = k := by
  rw [List.map_map]
  induction k with
  | nil => rfl
  | cons a r ih => rw [List.map_cons, ih]; exact congrArg (· :: r) (sK_k1S a)
/-- where texts stand -/
def shOf (k : List K1) (i : Nat) : Bool := match k[i]? with
  | some (.str _) => true
  | _ => false
theorem sameKs_get : ∀ {a b : List K1}, sameKs a b = true → ∀ i, shOf b i = shOf a i ∧ (b[i]?.isSome = a[i]?.isSome)
  | [], [], _, i => ⟨rfl, rfl⟩
  | [], _ :: _, h, _ => by simp [sameKs] at h
  | _ :: _, [], h, _ => by simp [sameKs] at h
  | a :: as, b :: bs, h, 0 => by
    simp only [sameKs, Bool.and_eq_true] at h
    refine ⟨?_, rfl⟩
    cases a <;> cases b <;> simp [sameK] at h <;> rfl
  | a :: as, b :: bs, h, i + 1 => by
    simp only [sameKs, Bool.and_eq_true] at h
    have q := sameKs_get h.2 i
    unfold shOf at q ⊢
    simpa using q
theorem tupItems_is {sh : Nat → Bool} : ∀ {k : List K1} {us : List Value} (i : Nat), Vals (k.map k1V) us → (∀ j, j < k.length → sh (i + j) = shOf k j) → tupItems sh i us = some (k.map k1S)
  | [], us, i, r, _ => by
    cases r
    simp [tupItems]
  | a :: k, us, i, r, h => by
    cases r with
    | cons r t =>
      have h0 := h 0 (by simp)
      have ih := tupItems_is (sh := sh) (k := k) (i + 1) t fun j hj => by
        have q := h (j + 1) (by simpa using hj)
        rw [show i + 1 + j = i + (j + 1) by omega, q]
        unfold shOf
        simp
      cases a with
      | int n =>
        obtain ⟨tk, rfl⟩ := r
        have h1 : sh i = false := by simpa [shOf] using h0
        simp [tupItems, h1, ih, k1S]
      | str x =>
        obtain ⟨tk, rfl⟩ := r
        have h1 : sh i = true := by simpa [shOf] using h0
        simp [tupItems, h1, ih, k1S]
abbrev IsTupR (H : Hp) (x : V) (k : List K1) : Prop := ∃ t, x = .ref t ∧ H t = some (.tup (k.map k1V))
/-- sorted of what is collected as these tuples -/
def rSortK (vs : List V) (ks : List (List K1)) (H : Hp) (Q : VK) : Prop := Paired (IsTupR H) vs ks ∧ tupsOk ks = true ∧ vs.length ≤ sizeLine ∧
  ∀ ys p, Paired (IsTupR H) ys (sortK ks) → H p = none → Q (.ref p) (upd H p (.lst ys))
theorem tupsOk_head {ks : List (List K1)} (h : tupsOk ks = true) : ∃ k0 : List K1, ∀ k ∈ ks, k ≠ [] ∧ ∀ i, i < k.length → shOf k0 i = shOf k i := by
  match ks, h with
  | [], _ => exact ⟨[], fun k hk => by cases hk⟩
  | [] :: _, h => simp [tupsOk] at h
  | (a :: as) :: r, h =>
    refine ⟨a :: as, fun k hk => ?_⟩
    rcases List.mem_cons.mp hk with rfl | hk
    · exact ⟨by simp, fun _ _ => rfl⟩
    · simp only [tupsOk, List.all_eq_true] at h
      have q := h k hk
      refine ⟨fun z => by rw [z] at q; simp [sameKs] at q, fun i _ => ((sameKs_get q i).1).symm⟩
theorem paired_mem {α β : Type} {F : α → β → Prop} : ∀ {xs : List α} {ys : List β}, Paired F xs ys → ∀ x ∈ xs, ∃ y ∈ ys, F x y
  | _, _, .nil, x, h => by cases h
  | _, _, .cons a t, x, h => by
    rcases List.mem_cons.mp h with rfl | h
    · exact ⟨_, List.mem_cons_self, a⟩
    · obtain ⟨y, hy, q⟩ := paired_mem t x h
      exact ⟨y, List.mem_cons_of_mem _ hy, q⟩
section
variable {X : Cx} {pins : List (Addr × Obj)} {σ : L2.St} {H : Hp} {s : Shared}
theorem tupR_key (I : Inv X pins σ H s) {t : Addr} {k k0 : List K1} (h : H t = some (.tup (k.map k1V))) (hk : ∀ i, i < k.length → shOf k0 i = shOf k i) (hn : k ≠ []) : tupKey s.heap (shOf k0) (.ref t) = some (k.map k1S) ∧ (∃ f, TupOf s.heap (shOf k0) (.ref t) f) := by
  obtain ⟨_, its, rv, o, ho, hc, n, hd⟩ := (show ObjOk X.prog X.w H s.heap t (.tup (k.map k1V)) from I.hok t _ h)
  have e := tupItems_is (sh := shOf k0) 0 rv fun j hj => by rw [Nat.zero_add]; exact hk j hj
  refine ⟨?_, ?_⟩
  · simp only [tupKey, ho, hd]
    simpa using e
  · cases k with
    | nil => exact absurd rfl hn
    | cons a r =>
      cases rv with
      | @cons _ u _ us ru t' =>
        refine ⟨u, t, o, _, n, rfl, ho, hc, hd, by simp, fun h0 => ?_, fun h0 => ?_⟩
        · cases a with
          | int i => obtain ⟨tk, rfl⟩ := ru; exact ⟨i, tk, rfl⟩
          | str x => rw [hk 0 (by simp)] at h0; simp [shOf] at h0
        · cases a with
          | int i => rw [hk 0 (by simp)] at h0; simp [shOf] at h0
          | str x => obtain ⟨tk, rfl⟩ := ru; exact ⟨_, tk, rfl⟩
theorem tupsOf_all {h : Heap} {sh : Nat → Bool} : ∀ {vs : List Value}, (∀ v ∈ vs, ∃ f, TupOf h sh v f) → ∃ fs, TupsOf h sh vs fs
  | [], _ => ⟨[], .nil⟩
  | v :: vs, x => by
    obtain ⟨f, e⟩ := x v List.mem_cons_self
    obtain ⟨fs, r⟩ := tupsOf_all fun u hu => x u (List.mem_cons_of_mem _ hu)
    exact ⟨f :: fs, .cons e r⟩
theorem sortK_run {x : Value} {vs : List V} {us : List Value} {ks : List (List K1)} {Q : VK} (I : Inv X pins σ H s) (rv : Vals vs us) (h : rSortK vs ks H Q)
    (hcol : ∀ R : List Value → Shared → Prop, (∀ h' tk, (∀ b o, s.heap.get? b = some o → h'.get? b = some o) → R us { s with heap := h', toks := tk }) → wpAny (model X.prog X.w) X.A.in1 (collect x) R X.xe s) :
    wpAny (model X.prog X.w) X.A (call (.builtin "sorted") [x]) (EP X pins σ Q) X.xe s := by
  obtain ⟨pr, ok, hz, q⟩ := h
  obtain ⟨k0, hk0⟩ := tupsOk_head ok
  obtain ⟨e1, e2⟩ := refs_back rv fun x m => by
    obtain ⟨k, _, t, e, _⟩ := paired_mem pr x m
    exact ⟨t, e⟩
  have lu := rv.length
  have at_ : ∀ u ∈ us, ∃ t k, u = .ref t ∧ k ∈ ks ∧ H t = some (.tup (k.map k1V)) ∧ keyV s.heap (shOf k0) u = k.map k1S := fun u hu => by
    obtain ⟨t, rfl⟩ := e2 u hu
    have hm : V.ref t ∈ vs := by rw [e1]; exact List.mem_map.mpr ⟨_, hu, rfl⟩
    obtain ⟨k, hk, t', e, ht⟩ := paired_mem pr _ hm
    cases e
    refine ⟨t, k, rfl, hk, ht, ?_⟩
    unfold keyV
    rw [(tupR_key I ht (hk0 k hk).2 (hk0 k hk).1).1]
    rfl
  have ksE : ks = us.map fun u => (keyV s.heap (shOf k0) u).map sK := by
    have go : ∀ {vs : List V} {us : List Value} {ks : List (List K1)}, Vals vs us → Paired (IsTupR H) vs ks → (∀ k ∈ ks, k ≠ [] ∧ ∀ i, i < k.length → shOf k0 i = shOf k i) → ks = us.map fun u => (keyV s.heap (shOf k0) u).map sK := fun {vs us ks} rv => by
      unfold Vals at rv
      clear hz q pr hcol lu e1 e2 at_ ok hk0
      induction rv generalizing ks with
      | nil => intro pr hk; cases pr; rfl
      | @cons v u vs us r t ih =>
        intro pr hk
        cases pr with
        | @cons _ k _ ks' h1 t1 =>
          obtain ⟨tt, rfl, ht⟩ := h1
          obtain rfl : u = Value.ref tt := r
          rw [List.map_cons, ← ih t1 fun k hk' => hk k (List.mem_cons_of_mem _ hk')]
          congr 1
          unfold keyV
          rw [(tupR_key I ht (hk k List.mem_cons_self).2 (hk k List.mem_cons_self).1).1]
          exact (sK_map k).symm
    exact go rv pr hk0
  refine sorted_tups (sh := shOf k0) ⟨fun v hv => ?_, tupsOf_all fun v hv => ?_⟩ (by rw [← lu]; exact hz) (fun v hv => ?_) hcol fun h1 h' tk out hs hp kp1 kp2 hd => ?_
  · obtain ⟨t, k, rfl, hk, ht, _⟩ := at_ v hv
    exact ⟨_, (tupR_key I ht (hk0 k hk).2 (hk0 k hk).1).1⟩
  · obtain ⟨t, k, rfl, hk, ht, _⟩ := at_ v hv
    exact (tupR_key I ht (hk0 k hk).2 (hk0 k hk).1).2
  · obtain ⟨t, k, rfl, hk, ht, _⟩ := at_ v hv
    obtain ⟨_, its, rv, o, ho, _⟩ := (show ObjOk X.prog X.w H s.heap t (.tup (k.map k1V)) from I.hok t _ ht)
    exact ⟨t, o, rfl, ho⟩
  · obtain ⟨n, hd⟩ := hd
    have I1 : Inv X pins σ H { s with heap := h1, toks := tk } := I.kept kp1
    have h3 : ∀ u ∈ out, ∃ a, u = Value.ref a := fun u hu => e2 u (hp.mem_iff.mp hu)
    have ee : out.map (fun u => (keyV s.heap (shOf k0) u).map sK) = sortK ks := by
      refine sortB_is ord_ks ?_ ?_
      · rw [ksE]; exact hp.map _
      · refine List.pairwise_map.mpr (List.Pairwise.imp_of_mem (fun {a b} ha hb hab => ?_) hs)
        obtain ⟨_, k, _, _, _, ea⟩ := at_ a (hp.mem_iff.mp ha)
        obtain ⟨_, l, _, _, _, eb⟩ := at_ b (hp.mem_iff.mp hb)
        have hab : lexLt itemOrd (keyV s.heap (shOf k0) b) (keyV s.heap (shOf k0) a) = false := hab
        rw [ea, eb] at hab
        rw [ea, eb, sK_map, sK_map]
        exact hab
    have pr2 : Paired (IsTupR H) (out.map backV) (sortK ks) := by
      rw [← ee]
      have go : ∀ {out : List Value}, (∀ u ∈ out, u ∈ us) → Paired (IsTupR H) (out.map backV) (out.map fun u => (keyV s.heap (shOf k0) u).map sK) := fun {out} hm => by
        induction out with
        | nil => exact .nil
        | cons u r ih =>
          refine .cons ?_ (ih fun u hu => hm u (List.mem_cons_of_mem _ hu))
          obtain ⟨t, k, rfl, _, ht, ek⟩ := at_ u (hm u List.mem_cons_self)
          refine ⟨t, rfl, ?_⟩
          show H t = some (.tup (((keyV s.heap (shOf k0) (Value.ref t)).map sK).map k1V))
          rw [ek, sK_map]
          exact ht
      exact go fun u hu => hp.mem_iff.mp hu
    refine ⟨.ref h1.objs.size, upd H h1.objs.size (.lst (out.map backV)), I1.laid (t' := tk) kp2 (Nat.le_refl _) ⟨?_, out, n, vals_back h3, hd⟩, rfl, q _ _ pr2 (I1.hok.fresh (Nat.le_refl _))⟩
    rw [List.length_map, hp.length_eq, ← lu]
    exact hz
end
section
variable {X : Cx} {G : Gx} {R : List Addr} {s : Sto} {ι : List Addr} {H : Hp}
theorem tups_den : ∀ {ws : List W} {ks : List (List K1)} {vs : List V}, tupsOf ws = some ks → DenL G (FzH G R s ι H) ι ws vs → Paired (IsTupR H) vs ks
  | [], ks, vs, h, d => by
    simp only [tupsOf] at h
    cases h
    simp only [DenL] at d
    subst d
    exact .nil
  | w :: r, ks, vs, h, d => by
    cases w with
    | tup xs =>
      simp only [tupsOf, Option.bind_eq_some_iff, Option.map_eq_some_iff] at h
      obtain ⟨k, ek, ks', er, rfl⟩ := h
      simp only [DenL] at d
      obtain ⟨v, vr, rfl, d1, d2⟩ := d
      simp only [Den] at d1
      obtain ⟨a, ws, rfl, f, dl⟩ := d1
      refine .cons ⟨a, rfl, ?_⟩ (tups_den er d2)
      rw [← toK1s_den ek dl]
      exact f.2
    | _ => simp [tupsOf] at h
theorem den_tups (S : Sim G R s ι H) : ∀ {ks : List (List K1)} {vs : List V}, Paired (IsTupR H) vs ks → DenL G (FzH G R s ι H) ι (ks.map fun k => .tup (k.map k1W)) vs
  | _, _, .nil => DenL.nil
  | _, _, .cons (b := k) h t => by
    obtain ⟨a, rfl, ha⟩ := h
    refine DenL.cons ?_ (den_tups S t)
    simp only [Den]
    exact ⟨a, _, rfl, FzH.tup S ha, den_k1s k⟩
theorem tupsOf_keys : ∀ {kvs : List (Ky × W)} {ks : List (List K1)}, tupsOf (kvs.map fun p => kyW p.1) = some ks → kvs.map (·.1) = ks.map Ky.many
  | [], ks, h => by simp [tupsOf] at h; subst h; rfl
  | (.one k, x) :: r, ks, h => by cases k <;> simp [tupsOf, kyW, k1W] at h
  | (.many k, x) :: r, ks, h => by
    have h : ((toK1s (k.map k1W)).bind fun k => (tupsOf (r.map fun p => kyW p.1)).map fun ks => k :: ks) = some ks := h
    simp only [Option.bind_eq_some_iff, Option.map_eq_some_iff] at h
    obtain ⟨k', ek, ks', er, rfl⟩ := h
    have tk : ∀ k : List K1, toK1s (k.map k1W) = some k := fun k => by
      induction k with
      | nil => rfl
      | cons a r ih => cases a <;> simp [toK1s, k1W, toK1, ih]
    rw [tk k] at ek
    cases ek
    simp [tupsOf_keys er]
/-- the keys of a dict with tuple keys, raw -/
theorem keysT_raw {pins : List (Addr × Obj)} {σ : L2.St} {st : Shared} (I : Inv X pins σ H st) {p : Addr} {o : HO} {kvs : List (Ky × W)} (rd : Rd H p o) (dd : DenD G (FzH G R s ι H) ι kvs o) {ks : List (List K1)} (hk : kvs.map (·.1) = ks.map Ky.many) :
    (p == sysModules) = false ∧ ∃ (ob : Obj) (es : Array DictEntry) (ep : Nat) (vs : List V) (us : List Value), st.heap.get? p = some ob ∧ ob.ExactDict ∧ ob.data = .dict es ep ∧ us.length = es.size ∧ (∀ (j : Nat) (en : DictEntry), es[j]? = some en → us[j]? = some en.key) ∧ Vals vs us ∧ Paired (IsTupR H) vs ks ∧ es.size ≤ sizeLine := by
  rcases dd.dk with ⟨q, rfl, dq⟩ | ⟨q, rfl, dq⟩
  · obtain ⟨z, hs, vs, kv, dO⟩ := dk_rd I.hok rd
    obtain ⟨es, ep, ⟨ob, ho, hx, hdt⟩, hsz, he⟩ := dO.raw
    have lk : q.length = vs.length := Paired.length kv
    have lq := dq.length
    cases kvs with
    | cons a r =>
      obtain ⟨k, x⟩ := a
      cases k with
      | many k => simp only [DenDK] at dq
      | one k => cases ks with
        | nil => cases hk
        | cons b t => simp at hk
    | nil =>
      have e0 : es.size = 0 := by rw [hsz, ← lk, lq]; rfl
      cases ks with
      | cons b t => cases hk
      | nil => exact ⟨hs, ob, es, ep, [], [], ho, hx, hdt, by rw [e0]; rfl, (fun j en e => by
          rw [Array.getElem?_eq_none (by omega)] at e
          cases e), .nil, .nil, by rw [e0]; exact Nat.zero_le _⟩
  · obtain ⟨z, hs, xs, kt, dO⟩ := dt_rd I.hok rd
    obtain ⟨ob, es, ep, ho, hx, hdt, he, _, _⟩ := dO
    have lk : q.length = xs.length := Paired.length kt
    have hsz : es.size = xs.length := size_of_entries he
    refine ⟨hs, ob, es, ep, xs.map fun x => .ref x.2.1, xs.map fun x => .ref x.2.1, ho, hx, hdt, by rw [List.length_map, hsz], fun j en e => ?_, ?_, ?_, by omega⟩
    · have q2 := entry_at he j
      rw [e] at q2
      rw [List.getElem?_map]
      cases hb : xs[j]? with
      | none => rw [hb] at q2; cases q2
      | some b => rw [hb] at q2; rw [Option.some.inj q2]; rfl
    · have go : ∀ l : List (List L2.Key × Addr × Value), Vals (l.map fun x => V.ref x.2.1) (l.map fun x => Value.ref x.2.1) := fun l => by
        induction l with
        | nil => exact .nil
        | cons a r ih => exact .cons rfl ih
      exact go xs
    · have go : ∀ {kvs : List (Ky × W)} {ks : List (List K1)} {q : List (List L2.Key × V)} {xs : List (List L2.Key × Addr × Value)}, kvs.map (·.1) = ks.map Ky.many → DenDT G (FzH G R s ι H) ι kvs q → KT H q xs → Paired (IsTupR H) (xs.map fun x => V.ref x.2.1) ks := fun {kvs} => by
        induction kvs with
        | nil =>
          intro ks q xs e d kt
          simp only [DenDT] at d
          subst d
          cases kt
          cases ks with
          | nil => exact .nil
          | cons _ _ => cases e
        | cons a r ih =>
          intro ks q xs e d kt
          obtain ⟨k, x⟩ := a
          cases k with
          | one k => simp only [DenDT] at d
          | many k =>
            simp only [DenDT] at d
            obtain ⟨v, z, rfl, _, d2⟩ := d
            cases ks with
            | nil => cases e
            | cons b t =>
              simp at e
              obtain ⟨e1, e2⟩ := e
              subst e1
              cases kt with
              | cons h1 t1 =>
                refine .cons ⟨_, rfl, ?_⟩ (ih e2 d2 t1)
                have := h1.2.1
                rw [kV_map] at this
                exact this
      exact go hk dq kt
theorem cb_sortT (hc : X.calm = true) : CallR X (.builtin "sorted") (rB G (biW .sortT)) := by
  refine cb_one (fun ws s r e => ?_) fun pins st σ R s ι H x w s' v u Q I ru S d e K => ?_
  · match ws, e with
    | [], e => simp [biW] at e
    | [x], _ => exact ⟨x, rfl⟩
    | x :: y :: r, e => simp [biW] at e
  · simp only [biW] at e
    obtain ⟨e, rfl⟩ := Op1.of_some e
    simp only [Option.bind_eq_some_iff] at e
    obtain ⟨ys, e1, ks, e2, e⟩ := e
    split at e
    · rename_i ho
      cases e
      rw [Bool.and_eq_true] at ho
      have fin : ∀ ys p, Paired (IsTupR H) ys (sortK ks) → H p = none → Q (.ref p) (upd H p (.lst ys)) := fun ys p pr hp => by
        obtain ⟨T, e⟩ := new_lst S hp (den_tups S pr)
        exact K _ _ _ T e
      unfold itemsOf at e1
      cases q : dctOf s' x with
      | some kvs =>
        rw [q] at e1
        cases e1
        obtain ⟨p, o, rfl, ⟨rd, r0⟩, dd⟩ := dct_den S d q
        obtain rfl : u = Value.ref p := ru
        obtain ⟨hs, ob, es, ep, vs, us, ho', hx, hdt, hl, hus, rv, pr, hz⟩ := keysT_raw I rd dd (tupsOf_keys e2)
        refine sortK_run I rv ⟨pr, ho.1, by rw [rv.length, hl]; exact hz, fin⟩ fun RR hR => ?_
        refine PySem.W.kdu_collect (A := X.A.in1) (kdl_raw hs hx hdt) (I.ok.hd hc) ho' hz fun h' tk acc hk hacc => ?_
        have ea : acc.toList = us := by
          refine List.ext_getElem? fun j => ?_
          have hl1 : acc.toList.length = us.length := by rw [Array.length_toList, hacc.1, hl]
          by_cases hj : j < acc.toList.length
          · have hj' : acc.toList[j]? = some acc.toList[j] := List.getElem?_eq_getElem hj
            obtain ⟨en, e1, e2⟩ := hacc.2 j acc.toList[j] (by rw [← Array.getElem?_toList]; exact hj')
            rw [hj', e2, hus j en e1]
          · rw [List.getElem?_eq_none (by omega), List.getElem?_eq_none (by omega)]
        rw [ea]
        exact hR h' tk hk
      | none =>
        rw [q] at e1
        obtain ⟨a, vs, rfl, rd, dl⟩ := lst_den S d e1
        obtain rfl : u = Value.ref a := ru
        obtain ⟨its, rv, pl, hz⟩ := I.list (.inl rd)
        have hz' : its.length ≤ sizeLine := by rw [← rv.length]; exact hz
        refine sortK_run I rv ⟨tups_den e2 dl, ho.1, hz, fin⟩ fun RR hR => ?_
        refine collect_list pl.isList (hR _ st.toks fun b o e => ?_) hz'
        have hlt := Heap.lt_size e
        rw [Heap.get?_update_ne _ _ _ _ (Nat.ne_of_lt hlt)]
        exact Heap.get?_push_of_some _ e
    · cases e
/-! texts -/
theorem strs_den : ∀ {ws : List W} {is : List (List Nat)} {vs : List V}, strsOf ws = some is → DenL G (FzH G R s ι H) ι ws vs → vs = is.map fun t => V.str ⟨t.toArray⟩
  | [], is, vs, h, d => by
    simp only [strsOf] at h
    cases h
    simp only [DenL] at d
    exact d
  | w :: r, is, vs, h, d => by
    cases w with
    | str i =>
      simp only [strsOf] at h
      cases e : strsOf r with
      | none => rw [e] at h; cases h
      | some js =>
        rw [e] at h
        cases h
        simp only [DenL] at d
        obtain ⟨v, q, rfl, d1, d2⟩ := d
        rw [of_str d1, strs_den e d2]
        rfl
    | _ => simp [strsOf] at h
theorem strs_is {F : Fz} : ∀ (is : List (List Nat)), DenL G F ι (is.map .str) (is.map fun t => V.str ⟨t.toArray⟩)
  | [] => DenL.nil
  | i :: r => DenL.cons den_str (strs_is r)
theorem risingS_up : ∀ {ys : List Str} {p : Str}, risingS p ys = true → Up strKind.blt ((p :: ys).map fun y => y.cps.toList)
  | [], p, _ => by simp
  | y :: r, p, h => by
    simp only [risingS, Bool.and_eq_true] at h
    have ih := risingS_up h.2
    have h1 : strKind.blt y.cps.toList p.cps.toList = false := by
      have := h.1
      rw [PyProof.Rows.ltCps_eq] at this
      simpa using this
    rw [List.map_cons]
    refine List.pairwise_cons.mpr ⟨fun z hz => ?_, ih⟩
    rw [List.map_cons] at hz
    rcases List.mem_cons.mp hz with rfl | hz
    · exact h1
    · have := (List.pairwise_cons.mp (by rw [List.map_cons] at ih; exact ih)).1 z hz
      exact ord_str.tr _ _ _ h1 this
theorem sortedS_up {ys : List Str} (h : sortedS ys = true) : Up strKind.blt (ys.map fun y => y.cps.toList) := by
  cases ys with
  | nil => simp
  | cons y r => exact risingS_up h
theorem sortS_of {ys : List Str} {is : List (List Nat)} (hp : ys.Perm (is.map fun t => ⟨t.toArray⟩)) (hs : sortedS ys = true) : ys = (sortS is).map fun t => ⟨t.toArray⟩ := by
  have e1 : (is.map fun t => (⟨t.toArray⟩ : Str)).map (fun y => y.cps.toList) = is := by
    rw [List.map_map]
    exact List.map_id'' (fun a => by simp) is
  have e2 : ys.map (fun y => y.cps.toList) = sortS is := by
    refine sortB_is ord_str ?_ (sortedS_up hs)
    have := hp.map fun y => y.cps.toList
    rw [e1] at this
    exact this
  rw [← e2, List.map_map]
  conv => lhs; rw [← List.map_id ys]
  refine List.map_congr_left fun y _ => ?_
  simp
theorem keys_strs {F : Fz} : ∀ {kvs : List (Ky × W)} {is : List (List Nat)} {q : List (L2.Key × V)}, strsOf (kvs.map fun p => kyW p.1) = some is → DenDK G F ι kvs q → q.map (·.1) = (is.map fun t => (⟨t.toArray⟩ : Str)).map Sum.inr
  | [], is, q, h, d => by
    simp [strsOf] at h
    subst h
    simp only [DenDK] at d
    subst d
    rfl
  | (k, x) :: r, is, q, h, d => by
    cases k with
    | many ks => simp only [DenDK] at d
    | one k =>
      cases k with
      | int t => simp [strsOf, kyW, k1W] at h
      | str i =>
        have h : (strsOf (r.map fun p => kyW p.1)).map (fun is => i :: is) = some is := h
        cases e : strsOf (r.map fun p => kyW p.1) with
        | none => rw [e] at h; cases h
        | some js =>
          rw [e] at h
          cases h
          simp only [DenDK] at d
          obtain ⟨v, z, rfl, d1, d2⟩ := d
          rw [List.map_cons, keys_strs e d2]
          rfl
theorem cb_sortS (hc : X.calm = true) : CallR X (.builtin "sorted") (rB G (biW .sortS)) := by
  refine cb_one (fun ws s r e => ?_) fun pins st σ R s ι H x w s' v u Q I ru S d e K => ?_
  · match ws, e with
    | [], e => simp [biW] at e
    | [x], _ => exact ⟨x, rfl⟩
    | x :: y :: r, e => simp [biW] at e
  · simp only [biW] at e
    obtain ⟨e, rfl⟩ := Op1.of_some e
    simp only [Option.bind_eq_some_iff] at e
    obtain ⟨ys, e1, is, e2, e⟩ := e
    split at e
    · rename_i h64
      cases e
      have h64' : (is.map fun t => (⟨t.toArray⟩ : Str)).length < 64 := by rw [List.length_map]; exact h64
      have fin : ∀ (ns' : List Str) (p : Addr), ns'.Perm (is.map fun t => ⟨t.toArray⟩) → sortedS ns' = true → H p = none → Q (.ref p) (upd H p (.lst (ns'.map V.str))) := fun ns' p hp hs hn => by
        rw [sortS_of hp hs, List.map_map]
        obtain ⟨T, e⟩ := new_lst S hn (strs_is (G := G) (F := FzH G R s' ι H) (ι := ι) (sortS is))
        exact K _ _ _ T e
      unfold itemsOf at e1
      cases q : dctOf s' x with
      | some kvs =>
        rw [q] at e1
        cases e1
        obtain ⟨p, o, rfl, ⟨rd, r0⟩, dd⟩ := dct_den S d q
        have viaK : ∀ z, o = .dK z → DenDK G (FzH G R s' ι H) ι kvs z → wpAny (model X.prog X.w) X.A (call (.builtin "sorted") [u]) (EP X pins σ Q) X.xe st := fun z ez dz => by
          subst ez
          exact call_sortedD hc pins st σ H [_] [u] Q I (.cons ru .nil) ⟨p, z, _, rfl, rd, keys_strs e2 dz, h64', fun ns' p hp hs hn => fin ns' p hp hs hn⟩
        rcases dd.dk with ⟨z, ez, dz⟩ | ⟨z, ez, dz⟩
        · exact viaK z ez dz
        · cases kvs with
          | cons k r =>
            obtain ⟨k, y⟩ := k
            cases k with
            | one k => simp only [DenDT] at dz
            | many ks => simp [strsOf, kyW] at e2
          | nil =>
            simp only [DenDT] at dz
            subst dz
            subst ez
            simp [strsOf] at e2
            subst e2
            have hH : H p = some (.dT []) := r0 rfl
            have I2 := inv_flip I (.inr ⟨rfl, rfl⟩) hH
            refine wpAny_mono (call_sortedD hc pins st σ (upd H p (.dK [])) [_] [u] (fun v H2 => ∃ z, v = .ref z ∧ upd H p (.dK []) z = none ∧ H2 = upd (upd H p (.dK [])) z (.lst [])) I2 (.cons ru .nil) ⟨p, [], [], rfl, .inl upd_same, rfl, by simp, fun ns' z hp hs hn => ?_⟩) (fun v' st' h' => ?_) fun _ _ h' => h'
            · have en : ns' = [] := List.Perm.eq_nil hp
              subst en
              exact ⟨z, rfl, hn, rfl⟩
            · obtain ⟨v2, H2, I3, r3, z, rfl, hz, rfl⟩ := h'
              have nz : z ≠ p := fun q => by rw [q, upd_same] at hz; cases hz
              rw [upd_ne nz] at hz
              have I4 := inv_flip (a := p) (u := .dK []) (u' := .dT []) I3 (.inl ⟨rfl, rfl⟩) (by rw [upd_ne nz.symm, upd_same])
              have eH : upd (upd (upd H p (.dK [])) z (.lst [])) p (.dT []) = upd H z (.lst []) := by
                funext b
                unfold upd
                by_cases h1 : b = p
                · rw [if_pos h1, if_neg (fun q => nz (by rw [← q, h1])), h1]; exact hH.symm
                · rw [if_neg h1]
                  by_cases h2 : b = z
                  · rw [if_pos h2, if_pos h2]
                  · rw [if_neg h2, if_neg h2, if_neg h1]
              rw [eH] at I4
              exact ⟨.ref z, _, I4, r3, fin [] z (.refl _) rfl hz⟩
      | none =>
        rw [q] at e1
        obtain ⟨a, vs, rfl, rd, dl⟩ := lst_den S d e1
        have ev := strs_den e2 dl
        refine cr_sortedS pins st σ H [_] [u] Q I (.cons ru .nil) ⟨a, is.map fun t => ⟨t.toArray⟩, rfl, .inl (by rw [List.map_map]; rw [ev] at rd; exact rd), h64', fin⟩
    · cases e
end
end Mn

end

section
set_option Elab.async false
set_option linter.all false
set_option maxRecDepth 100000
set_option maxHeartbeats 2000000
/-! Mini: tests. -/
namespace Mn
open PySem PySem.Spec PyProof.Rows L2
section
variable {X : Cx} {G : Gx} {Wx : WX} {a b c d : PySem.Expr} {ra rb rc : Env → M W} {pos : Pos} {rest : List PySem.Expr}
theorem M.tru_same {w : W} {s s' : Sto} {k : Bool} (h : M.tru w s = some (.ok k, s')) : s' = s ∧ truW s w = some k := by
  unfold M.tru M.op at h
  cases e : truM w s with
  | none => rw [e] at h; cases h
  | some p =>
    obtain ⟨b, s2⟩ := p
    rw [e] at h
    cases h
    obtain ⟨h1, h2⟩ := truM_some e
    exact ⟨h2, h1⟩
theorem M.tru_ok {w : W} {s : Sto} {k : Bool} (h : truW s w = some k) : M.tru w s = some (.ok k, s) := by
  unfold M.tru M.op truM
  rw [h]
  rfl
theorem Post.truE {σ : L2.St} {R : List Addr} {s : Sto} {ι : List Addr} {H : Hp} {w : W} {K : Bool → Sto → List Addr → Hp → Prop} (S : Sim G R s ι H) (h : Post G Wx σ R s ι H (M.tru w s) K) : ∃ k, truW s w = some k ∧ M.tru w s = some (.ok k, s) ∧ K k s ι H := by
  obtain ⟨k, e, q⟩ := h.tru S
  exact ⟨k, e, M.tru_ok e, q⟩
theorem pw_andW (ha : PT X a (tT G Wx fun ρ => M.bind (ra ρ) M.tru)) (hb : PW X (.BoolOp .And (b :: rest) pos) (tT G Wx fun ρ => M.bind (rb ρ) M.tru)) :
    PW X (.BoolOp .And (a :: b :: rest) pos) (tT G Wx fun ρ => M.bind (M.bind (ra ρ) fun x => M.bind (M.tru x) fun t => if t then rb ρ else M.ret x) M.tru) := by
  refine PW.imp (pw_and ha hb) fun σ H Q ⟨R, s, ι, ρ, S, D, P⟩ => ?_
  refine ⟨R, s, ι, ρ, S, D, ?_⟩
  have P : Post G Wx σ R s ι H (M.bind (M.bind (ra ρ) fun x => M.bind (M.tru x) fun t => if t then rb ρ else M.ret x) M.tru s) fun b s' ι' H' => Q b H' := P
  have e : M.bind (M.bind (ra ρ) fun x => M.bind (M.tru x) fun t => if t then rb ρ else M.ret x) M.tru s = M.bind (M.bind (ra ρ) M.tru) (fun t => if t then M.bind (rb ρ) M.tru else M.ret false) s := by
    unfold M.bind
    cases ra ρ s with
    | none => rfl
    | some p =>
      obtain ⟨q, s'⟩ := p
      cases q with
      | error _ => rfl
      | ok x =>
        simp only
        cases et : M.tru x s' with
        | none => rfl
        | some p =>
          obtain ⟨q, s2⟩ := p
          cases q with
          | error _ => rfl
          | ok k =>
            cases k with
            | true => rfl
            | false =>
              obtain ⟨rfl, e2⟩ := M.tru_same et
              exact M.tru_ok e2
  rw [e] at P
  refine P.bind.mono fun k s1 ι1 H1 T1 P1 => ?_
  cases k with
  | true => exact ⟨R, s1, ι1, ρ, T1.sim, D.step T1, P1⟩
  | false => exact P1.ret T1.sim
theorem pw_orW (ha : PT X a (tT G Wx fun ρ => M.bind (ra ρ) M.tru)) (hb : PW X (.BoolOp .Or (b :: rest) pos) (tT G Wx fun ρ => M.bind (rb ρ) M.tru)) :
    PW X (.BoolOp .Or (a :: b :: rest) pos) (tT G Wx fun ρ => M.bind (M.bind (ra ρ) fun x => M.bind (M.tru x) fun t => if t then M.ret x else rb ρ) M.tru) := by
  refine PW.imp (pw_or ha hb) fun σ H Q ⟨R, s, ι, ρ, S, D, P⟩ => ?_
  refine ⟨R, s, ι, ρ, S, D, ?_⟩
  have P : Post G Wx σ R s ι H (M.bind (M.bind (ra ρ) fun x => M.bind (M.tru x) fun t => if t then M.ret x else rb ρ) M.tru s) fun b s' ι' H' => Q b H' := P
  have e : M.bind (M.bind (ra ρ) fun x => M.bind (M.tru x) fun t => if t then M.ret x else rb ρ) M.tru s = M.bind (M.bind (ra ρ) M.tru) (fun t => if t then M.ret true else M.bind (rb ρ) M.tru) s := by
    unfold M.bind
    cases ra ρ s with
    | none => rfl
    | some p =>
      obtain ⟨q, s'⟩ := p
      cases q with
      | error _ => rfl
      | ok x =>
        simp only
        cases et : M.tru x s' with
        | none => rfl
        | some p =>
          obtain ⟨q, s2⟩ := p
          cases q with
          | error _ => rfl
          | ok k =>
            cases k with
            | false => rfl
            | true =>
              obtain ⟨rfl, e2⟩ := M.tru_same et
              exact M.tru_ok e2
  rw [e] at P
  refine P.bind.mono fun k s1 ι1 H1 T1 P1 => ?_
  cases k with
  | true => exact P1.ret T1.sim
  | false => exact ⟨R, s1, ι1, ρ, T1.sim, D.step T1, P1⟩
theorem pw_and1W (ha : PT X a (tT G Wx fun ρ => M.bind (ra ρ) M.tru)) : PW X (.BoolOp .And [a] pos) (tT G Wx fun ρ => M.bind (ra ρ) M.tru) := pw_and1 ha
theorem pw_or1W (ha : PT X a (tT G Wx fun ρ => M.bind (ra ρ) M.tru)) : PW X (.BoolOp .Or [a] pos) (tT G Wx fun ρ => M.bind (ra ρ) M.tru) := pw_or1 ha
theorem pt_notW (ha : PT X a (tT G Wx fun ρ => M.bind (ra ρ) M.tru)) : PT X (.UnaryOp .Not a pos) (tT G Wx fun ρ => M.bind (M.bind (ra ρ) fun x => M.bind (M.tru x) fun t => M.ret (.bl (!t))) M.tru) := by
  refine PT.imp (pt_not ha) fun σ H Q ⟨R, s, ι, ρ, S, D, P⟩ => ?_
  refine ⟨R, s, ι, ρ, S, D, ?_⟩
  have P : Post G Wx σ R s ι H (M.bind (M.bind (ra ρ) fun x => M.bind (M.tru x) fun t => M.ret (.bl (!t))) M.tru s) fun b s' ι' H' => Q b H' := P
  have e : M.bind (M.bind (ra ρ) fun x => M.bind (M.tru x) fun t => M.ret (.bl (!t))) M.tru s = M.bind (M.bind (ra ρ) M.tru) (fun t => M.ret (!t)) s := by
    unfold M.bind
    cases ra ρ s with
    | none => rfl
    | some p =>
      obtain ⟨q, s'⟩ := p
      cases q with
      | error _ => rfl
      | ok x =>
        simp only
        cases et : M.tru x s' with
        | none => rfl
        | some p =>
          obtain ⟨q, s2⟩ := p
          cases q with
          | error _ => rfl
          | ok k => rfl
  rw [e] at P
  exact P.bind.mono fun k s1 ι1 H1 T1 P1 => P1.ret T1.sim
/-- what gives a bool -/
theorem tB_of {r : Env → M W} (hb : ∀ ρ s w s', r ρ s = some (.ok w, s') → ∃ k, w = .bl k) {σ : L2.St} {H : Hp} {Q : Bool → Hp → Prop} (h : tT G Wx (fun ρ => M.bind (r ρ) M.tru) σ H Q) : tE G Wx r σ H fun v H1 => ∃ k, v = .bl k ∧ Q k H1 := by
  obtain ⟨R, s, ι, ρ, S, D, P⟩ := h
  refine ⟨R, s, ι, ρ, S, D, P.bindE.mono fun w s1 ι1 H1 T1 ⟨ew, P1⟩ v dv => ?_⟩
  obtain ⟨k, rfl⟩ := hb _ _ _ _ ew
  obtain ⟨k', e, q⟩ := P1.tru T1.sim
  simp only [truW] at e
  cases e
  exact ⟨_, of_bl dv, q⟩
def chnM (o p : C2) (ra rb rc : Env → M W) : Env → M W := fun ρ => M.bind (ra ρ) fun x => M.bind (rb ρ) fun y => M.bind (M.op (c2W o x y)) fun z => match z with
    | .bl true => M.bind (rc ρ) fun u => M.op (c2W p y u)
    | .bl false => M.ret (.bl false)
    | _ => M.no
theorem op_ok {α : Type} {m : Op1 α} {s s' : Sto} {a : α} (h : M.op m s = some (.ok a, s')) : m s = some (a, s') := by
  unfold M.op at h
  cases e : m s with
  | none => rw [e] at h; cases h
  | some p => obtain ⟨b, s2⟩ := p; rw [e] at h; cases h; rfl
theorem chnM_bl {o p : C2} {ρ : Env} {s s' : Sto} {w : W} (h : chnM o p ra rb rc ρ s = some (.ok w, s')) : ∃ b, w = .bl b := by
  obtain ⟨x, s1, _, h⟩ := bind_ok h
  obtain ⟨y, s2, _, h⟩ := bind_ok h
  obtain ⟨z, s3, _, h⟩ := bind_ok h
  split at h
  · obtain ⟨u, s4, _, h⟩ := bind_ok h
    obtain ⟨k, _, e, _⟩ := c2W_some (op_ok h)
    exact ⟨k, e⟩
  · cases h; exact ⟨_, rfl⟩
  · cases h
theorem pt_chnW {k0 : Nat} (hK : X.K = G.K) (hr : L2.Room k0 X.A) (o p : C2) (ha : PE X a (tE G Wx ra)) (hb : PE X b (tE G Wx rb)) (hc : PE X c (tE G Wx rc)) (hm : lastMarks [c2o o, c2o p] [b, c] = false) :
    PT X (.Compare a [c2o o, c2o p] [b, c] pos) (tT G Wx fun ρ => M.bind (chnM o p ra rb rc ρ) M.tru) :=
  PT.imp (pt_chain (op_c2 hK hr o) (op_c2 hK hr p) ha hb hc hm) fun σ H Q h => chain_imp (tB_of (fun ρ s w s' => chnM_bl) h)
def isNM (t : Bool) (ra : Env → M W) : Env → M W := fun ρ => M.bind (ra ρ) fun x => M.ret (.bl (if isNonW x then t else !t))
theorem isNM_bl {t : Bool} {ρ : Env} {s s' : Sto} {w : W} (h : isNM t ra ρ s = some (.ok w, s')) : ∃ b, w = .bl b := by
  obtain ⟨x, s1, _, h⟩ := bind_ok h
  cases h
  exact ⟨_, rfl⟩
theorem pt_isNW {t : Bool} {j : Nat} {pos' : Pos} (ha : PE X a (tE G Wx ra)) : PT X (.Compare a [if t then .Is else .IsNot] [.Constant .none j pos'] pos) (tT G Wx fun ρ => M.bind (isNM t ra ρ) M.tru) := by
  have go : ∀ {σ H} {Q : VK}, tE G Wx (isNM t ra) σ H Q → tE G Wx ra σ H fun v H1 => Q (.bl (if decide (v = .non) then t else !t)) H1 := fun {σ H Q} ⟨R, s, ι, ρ, S, D, P⟩ => by
    refine ⟨R, s, ι, ρ, S, D, P.bind.mono fun x s1 ι1 H1 T1 P1 v1 d1 => ?_⟩
    show Q (.bl (if decide (v1 = .non) then t else !t)) H1
    rw [isN_den d1]
    exact P1.ret T1.sim _ den_bl
  cases t with
  | true =>
    refine PT.imp (pt_cmp (pc_isN ha) (nomark _ (by decide) (by decide))) fun σ H Q h => ?_
    have q := go (tB_of (fun ρ s w s' => isNM_bl) h)
    refine tE.mono q fun v H1 h1 => ?_
    obtain ⟨k, e, q⟩ := h1
    refine ⟨decide (v = .non), rfl, ?_⟩
    have e2 := V.bl.inj e
    cases hv : decide (v = V.non) <;> rw [hv] at e2 <;> rw [← e2] at q <;> exact q
  | false =>
    refine PT.imp (pt_cmp (pc_notN ha) (nomark _ (by decide) (by decide))) fun σ H Q h => ?_
    have q := go (tB_of (fun ρ s w s' => isNM_bl) h)
    refine tE.mono q fun v H1 h1 => ?_
    obtain ⟨k, e, q⟩ := h1
    refine ⟨!decide (v = .non), rfl, ?_⟩
    have e2 := V.bl.inj e
    cases hv : decide (v = V.non) <;> rw [hv] at e2 <;> rw [← e2] at q <;> exact q
/-- what is tested by its value -/
def simpX : PySem.Expr → Bool
  | .UnaryOp .Not _ _ => false
  | .BoolOp _ _ _ => false
  | .IfExp _ _ _ _ => false
  | .Compare _ _ _ _ => false
  | _ => true
theorem simp_ok {e : PySem.Expr} {env : PySem.Env} (h : simpX e = true) (whole : Sem Value) : isTrue e env whole = (do let v ← whole; standAt e.pos; holding [v] (truthy v)) := by
  cases e with
  | UnaryOp op x p => cases op <;> first | rfl | (simp [simpX] at h; done)
  | BoolOp _ _ _ => simp [simpX] at h
  | IfExp _ _ _ _ => simp [simpX] at h
  | Compare _ _ _ _ => simp [simpX] at h
  | _ => rfl
end
end Mn

end

section
set_option Elab.async false
set_option linter.all false
set_option maxRecDepth 100000
set_option maxHeartbeats 2000000
/-! Mini: the checker of expressions. -/
namespace Mn
open PySem PySem.Spec PyProof.Rows L2
/-- the text's tables -/
structure Tb where
  funs : List (Str × (Nat × Nat))
  clss : List (Str × (Nat × Nat))
  excs : List (Str × Nat)
  mths : List (Str × (Nat × Nat))
  fnm : List Str
  tname : Str
  tfid : Nat
  tcs : List (Nat × List Nat)
/-- a context's own -/
structure Ck where
  N : List Str
  sc : Scope
  fn : Str → Bool
  lam : Bool
def relS (sc scope : Scope) : Scope := { scope with names := scope.names.map fun (n, k) => if (k == NameKind.free && sc.kind == .function && sc.names.lookup n == some .cell) then (n, NameKind.cell) else (n, k) }
def blkCk (ck : Ck) (scope : Scope) : Ck := ⟨ck.N, relS ck.sc scope, fun x => scope.names.lookup x == some .cell, false⟩
def lamCk (ck : Ck) (scope : Scope) : Ck := ⟨ck.N, scope, fun _ => false, false⟩
def visB (sc : Scope) (x : Str) : Bool := match sc.names.lookup x with
  | some .local => true
  | some .cell => true
  | some .free => true
  | _ => false
def locB (sc : Scope) (x : Str) : Bool := match sc.names.lookup x with
  | some .local => true
  | some .cell => true
  | _ => false
def glB (sc : Scope) (x : Str) : Bool := match sc.names.lookup x with
  | some .globalImplicit => true
  | _ => false
theorem vis_ok {sc : Scope} {x : Str} (h : visB sc x = true) : Vis sc x := by
  unfold visB at h
  split at h <;> first | (rename_i e; exact .inl e) | (rename_i e; exact .inr (.inl e)) | (rename_i e; exact .inr (.inr e)) | cases h
theorem loc_ok {sc : Scope} {x : Str} (h : locB sc x = true) : Loc sc x := by
  unfold locB at h
  split at h <;> first | (rename_i e; exact .inl e) | (rename_i e; exact .inr e) | cases h
theorem gl_ok {sc : Scope} {x : Str} (h : glB sc x = true) : sc.names.lookup x = some .globalImplicit := by
  unfold glB at h
  split at h
  · assumption
  · cases h
/-- built-ins: name, how many -/
def biSig : Bi → Option (Str × Nat × Bool)
  | .len => some ("len", 1, false)
  | .int => some ("int", 1, true)
  | .abs => some ("abs", 1, false)
  | .min2 => some ("min", 2, false)
  | .max2 => some ("max", 2, false)
  | .min1 => some ("min", 1, false)
  | .max1 => some ("max", 1, false)
  | .sum => some ("sum", 1, false)
  | .sorted => some ("sorted", 1, false)
  | .sortS => some ("sorted", 1, false)
  | .sortT => some ("sorted", 1, false)
  | .tuple => some ("tuple", 1, true)
  | .list _ => some ("list", 1, true)
  | .listd _ => some ("list", 1, true)
  | .dict => some ("dict", 1, true)
  | _ => none
def biNames : List Str := ["len", "int", "abs", "min", "max", "sum", "sorted", "tuple", "list", "dict", "range", "enumerate", "zip"]
def notSet : PySem.Expr → Bool
  | .Set _ _ _ => false
  | _ => true
theorem folded_ok {e : PySem.Expr} {env : PySem.Env} (h : notSet e = true) (x : Value) : foldedSetIterable e env x = pure x := by
  cases e <;> first | rfl | (simp [notSet] at h; done)
def noArgs : Arguments → Bool
  | ⟨[], [], none, [], [], none, []⟩ => true
  | _ => false
theorem noArgs_ok {a : Arguments} (h : noArgs a = true) : a = ⟨[], [], none, [], [], none, []⟩ := by
  unfold noArgs at h
  split at h
  · rfl
  · cases h
def esLen : Es → Nat
  | .nil => 0
  | .cons _ r => esLen r + 1
/-- as a test -/
def tOk : E → PySem.Expr → Bool
  | .and_ a b, .BoolOp .And (a' :: b' :: rest) pos => tOk a a' && (match rest with
    | [] => tOk b b'
    | _ => tOk b (.BoolOp .And (b' :: rest) pos))
  | .or_ a b, .BoolOp .Or (a' :: b' :: rest) pos => tOk a a' && (match rest with
    | [] => tOk b b'
    | _ => tOk b (.BoolOp .Or (b' :: rest) pos))
  | .not_ a, .UnaryOp .Not a' _ => tOk a a'
  | .cmp _ _ _, _ => true
  | .chn _ _ _ _ _, _ => true
  | .isN _ _, _ => true
  | .inV _ _ _, _ => true
  | .lkd _ _ _, _ => false
  | _, ast => simpX ast
mutual
def chkE (T : Tb) : E → Ck → PySem.Expr → Bool
  | .cst k, _, .Constant c _ _ => chkK k c
  | .var i, ck, .Name x _ => decide (ck.N[i]? = some x) && (visB ck.sc x && (x != "__debug__" && x != "__classdict__"))
  | .bin o a b, ck, .BinOp a' op b' _ => decide (op = b2o o) && (chkE T a ck a' && chkE T b ck b')
  | .neg a, ck, .UnaryOp .USub a' _ => chkE T a ck a'
  | .cmp o a b, ck, .Compare a' [op] [b'] _ => decide (op = c2o o) && (!behindInMarks op b' && (chkE T a ck a' && chkE T b ck b'))
  | .chn o p a b c, ck, .Compare a' [op, oq] [b', c'] _ => decide (op = c2o o) && (decide (oq = c2o p) && (!lastMarks [op, oq] [b', c'] && (chkE T a ck a' && (chkE T b ck b' && chkE T c ck c'))))
  | .isN t a, ck, .Compare a' [op] [.Constant .none _ _] _ => decide (op = if t then .Is else .IsNot) && chkE T a ck a'
  | .and_ a b, ck, .BoolOp .And (a' :: b' :: rest) pos => chkE T a ck a' && (match rest with
    | [] => chkE T b ck b'
    | _ => chkE T b ck (.BoolOp .And (b' :: rest) pos))
  | .or_ a b, ck, .BoolOp .Or (a' :: b' :: rest) pos => chkE T a ck a' && (match rest with
    | [] => chkE T b ck b'
    | _ => chkE T b ck (.BoolOp .Or (b' :: rest) pos))
  | .not_ a, ck, .UnaryOp .Not a' _ => chkE T a ck a'
  | .ite c a b, ck, .IfExp c' a' b' _ => (tOk c c' && chkE T c ck c') && (chkE T a ck a' && chkE T b ck b')
  | .tup es, ck, .Tuple as _ _ => chkEs T es ck as
  | .lst _ es, ck, .List as _ => chkEs T es ck as
  | .dct0, _, .Dict [] [] _ => true
  | .fld a f, ck, .Attribute a' x _ => decide (T.fnm[f]? = some x) && (baseX a' && chkE T a ck a')
  | .idx a b, ck, .Subscript a' b' _ => ixX b' && (chkE T a ck a' && chkE T b ck b')
  | .slc a lo hi, ck, .Subscript a' (.Slice l h none _) _ => chkE T a ck a' && (chkO T lo ck l && chkO T hi ck h)
  | .call f es, ck, .Call (.Name x _) as [] _ => glB ck.sc x && (x != "__debug__" && (decide (T.funs.lookup x = some (f, as.length)) && chkEs T es ck as))
  | .new c es, ck, .Call (.Name x _) as [] _ => glB ck.sc x && (x != "__debug__" && (decide (T.clss.lookup x = some (c, as.length + 1)) && chkEs T es ck as))
  | .meth a m es, ck, .Call (.Attribute o x apos) as [] pos => decide (T.mths.lookup x = some (m, as.length)) && (decide (T.fnm[m]? = some x) && (baseX o && ((apos.endLine == pos.line) && (decide (as.length < 29) && (chkE T a ck o && chkEs T es ck as)))))
  | .bi b es, ck, .Call (.Name x _) as [] _ => (match biSig b with
    | some (y, n, _) => decide (y = x ∧ n = as.length)
    | none => false) && (glB ck.sc x && chkEs T es ck as)
  | .comp _ elt t it ts, ck, .ListComp elt' [⟨tg, iter, ifs, 0⟩] scope _ =>
    blkC ck.N ck.sc scope ((tgSlots t).map fun i => ((ck.N[i]?).getD "", i)) && (notSet iter && (chkI T it ck tg iter && (chkT T t (blkCk ck scope) tg && (chkF T ts (blkCk ck scope) ifs && chkE T elt (blkCk ck scope) elt'))))
  | .lam f body, ck, .Call (.Name x _) [.Lambda params body' scope _] [] _ => ck.lam && (glB ck.sc x && (decide (x = T.tname ∧ f = T.tfid) && (LamX.lamSB ck.sc scope && (noArgs params && chkE T body (lamCk ck scope) body'))))
  | .lkd _ _ e, ck, ast => chkE T e ck ast
  | .inV t a d, ck, .Compare a' [op] [.Call (.Attribute d' x apos) [] [] cpos] _ => decide (op = if t then .In else .NotIn) && (decide (x = "values") && (baseX d' && ((apos.endLine == cpos.line) && (chkE T a ck a' && chkE T d ck d'))))
  | .litems _ d, ck, .Call (.Name x _) [.Call (.Attribute d' y apos) [] [] cpos] [] _ => decide (x = "list" ∧ y = "items") && (glB ck.sc x && (baseX d' && ((apos.endLine == cpos.line) && chkE T d ck d')))
  | .dget d k x, ck, .Call (.Attribute d' y apos) [k', x'] [] cpos => decide (y = "get") && (baseX d' && (plainX k' && (plainX x' && ((apos.endLine == cpos.line) && (chkE T d ck d' && (chkE T k ck k' && chkE T x ck x'))))))
  | _, _, _ => false
def chkEs (T : Tb) : Es → Ck → List PySem.Expr → Bool
  | .nil, _, [] => true
  | .cons e r, ck, a :: as => plainX a && (chkE T e ck a && chkEs T r ck as)
  | _, _, _ => false
def chkO (T : Tb) : Op → Ck → Option PySem.Expr → Bool
  | .no, _, none => true
  | .so e, ck, some a => chkE T e ck a
  | _, _, _ => false
def chkI (T : Tb) : It → Ck → PySem.Expr → PySem.Expr → Bool
  | .seq e, ck, _, a => chkE T e ck a
  | .rng1 a, ck, _, .Call (.Name x _) [a'] [] _ => decide (x = "range") && (glB ck.sc x && (plainX a' && chkE T a ck a'))
  | .rng2 a b, ck, _, .Call (.Name x _) [a', b'] [] _ => decide (x = "range") && (glB ck.sc x && (plainX a' && (plainX b' && (chkE T a ck a' && chkE T b ck b'))))
  | .enum e, ck, .Tuple _ _ _, .Call (.Name x _) [a'] [] _ => decide (x = "enumerate") && (glB ck.sc x && (plainX a' && chkE T e ck a'))
  | .keys e, ck, _, a => chkE T e ck a
  | .vals e, ck, _, .Call (.Attribute d x apos) [] [] cpos => decide (x = "values") && (baseX d && ((apos.endLine == cpos.line) && chkE T e ck d))
  | .items e, ck, .Tuple _ _ _, .Call (.Attribute d x apos) [] [] cpos => decide (x = "items") && (baseX d && ((apos.endLine == cpos.line) && chkE T e ck d))
  | _, _, _, _ => false
def chkT (T : Tb) : Tg → Ck → PySem.Expr → Bool
  | .var i, ck, .Name x _ => decide (ck.N[i]? = some x) && (locB ck.sc x && (ck.fn x || decide (ck.sc.names.lookup x = some .local)))
  | .tup ts, ck, .Tuple as _ _ => as.all plainX && chkTs T ts ck as
  | .sub o i, ck, .Subscript a b _ => ixX b && (chkE T o ck a && chkE T i ck b)
  | _, _, _ => false
def chkTs (T : Tb) : Tgs → Ck → List PySem.Expr → Bool
  | .nil, _, [] => true
  | .cons t r, ck, a :: as => plainX a && (chkT T t ck a && chkTs T r ck as)
  | _, _, _ => false
def chkF (T : Tb) : Es → Ck → List PySem.Expr → Bool
  | .nil, _, [] => true
  | .cons e .nil, ck, [a] => tOk e a && chkE T e ck a
  | _, _, _ => false
end
end Mn

end

section
set_option Elab.async false
set_option linter.all false
set_option maxRecDepth 100000
set_option maxHeartbeats 2000000
/-! Mini: the checker of expressions is sound. -/
namespace Mn
open PySem PySem.Spec PyProof.Rows L2
/-- what is told by the def told -/
def ToldF (mg : Str → Option Value) (G : Gx) (T : Tb) : Prop := ∃ (a : Str) (g : Addr) (pgs : Arguments) (sg : Scope) (dV kV doc pm cdv ct oc : Value) (an od : Option Addr) (osl : Array (Option Value)) (Ng : List Str) (p1 p2 p3 p8 : Pos) (h₀ : ExceptHandler) (hs : List ExceptHandler),
  mg T.tname = some (.ref g) ∧ PySem.W.keepIn G.K (.ref g) = true ∧ G.K.lookup g = some ⟨oc, od, .func (PySem.W.fnOf T.tname T.tname pgs [.Try [.Return (some (.Call (.Name a p1) [] [] p2)) p3] (h₀ :: hs) [] [] p8] sg dV kV doc pm an cdv ct), osl⟩ ∧
  PySem.W.codeIn G.K cdv T.tname = true ∧ L2.Binds G.K (PySem.W.fnOf T.tname T.tname pgs [.Try [.Return (some (.Call (.Name a p1) [] [] p2)) p3] (h₀ :: hs) [] [] p8] sg dV kV doc pm an cdv ct) [a] [] ∧ FnScope Ng [a] sg ∧ Ng[0]? = some a ∧ Vis sg a ∧
  THs mg sg (h₀ :: hs) (csV G T.tcs) ∧ (∀ f : Addr, (L2.start Ng [V.ref f])[0]? = some (some (V.ref f))) ∧ (T.tname == ("__debug__" : Str)) = false ∧ (a == ("__debug__" : Str)) = false ∧ (a == ("__classdict__" : Str)) = false
/-- the text's facts -/
structure GT (mg : Str → Option Value) (G : Gx) (pg : Pg) (Df : Defs) (T : Tb) : Prop where
  txt : Txt G.K G pg
  sub : SubT G.K G pg
  fn : ∀ x f n, T.funs.lookup x = some (f, n) → mg x = some (.ref (Df.fad f)) ∧ Df.ok f = true ∧ PySem.W.keepIn G.K (.ref (Df.fad f)) = true ∧ Binds G.K (Df.fdt f) (Df.par f) [] ∧ (Df.par f).length = n
  cl : ∀ x c n, T.clss.lookup x = some (c, n) → mg x = some (.ref (G.cad c)) ∧ Df.ok (pg.ini c) = true ∧ Mk G.K (G.cad c) (Df.fad (pg.ini c)) ∧ Binds G.K (Df.fdt (pg.ini c)) (Df.par (pg.ini c)) [] ∧ (Df.par (pg.ini c)).length = n
  ex : ∀ x c, T.excs.lookup x = some c → mg x = some (.ref (G.cad c)) ∧ XcT G.K (G.cad c) ∧ pg.xfl c = none
  mt : ∀ x m n, T.mths.lookup x = some (m, n) → MethT G.K G pg Df m n
  fnm : ∀ f x, T.fnm[f]? = some x → G.fnm f = x
  bi : ∀ x ∈ biNames, mg x = none
  told : ToldF mg G T
/-- levels below -/
structure LevX (X : Cx) (G : Gx) (Df : Defs) (k : Nat) (tw : List F) : Prop where
  l0 : ∃ j, j ≤ k ∧ Lev X.prog X.w X.K X.mg X.base G Df j (atT tw 0)
  l1 : ∃ j, j + 1 ≤ k ∧ Lev X.prog X.w X.K X.mg X.base G Df j (atT tw 1)
/-- what lambdas ask of their maker -/
structure LamX' (X : Cx) (G : Gx) (pg : Pg) (Df : Defs) (T : Tb) (k : Nat) (tw : List F) : Prop where
  tab : ∃ c P, LamX.TabB X.base X.mg c P ∧ X.env.code = .ref c ∧ (P, X.env.qual ++ "<lambda>") ∈ G.T ∧ ∀ p ∈ G.T, p.1 = P → p.2 = X.env.qual ++ "<lambda>"
  lev : ∃ j, j + 2 ≤ k ∧ LevX X G Df j (tw.drop 2)
  told : ∀ m s, atT tw 0 T.tfid [] (some m) s = none ∨ atT tw 0 T.tfid [] (some m) s = toldM pg T.tcs m s
structure SX (G : Gx) (pg : Pg) (Df : Defs) (T : Tb) (Wx : WX) (ck : Ck) (k : Nat) (tw : List F) (X : Cx) : Prop where
  kin : X.K = G.K
  gt : GT X.mg G pg Df T
  calm : X.calm = true
  nd : X.N.Nodup
  nm : X.N = ck.N
  sc : X.env.scope = ck.sc
  fn : X.fn = ck.fn
  room : Room k X.A
  lev : LevX X G Df k tw
  tk : Takes X Wx
  lam : ck.lam = true → LamX' X G pg Df T k tw
section
variable {G : Gx} {pg : Pg} {Df : Defs} {T : Tb} {Wx : WX} {ck : Ck} {k : Nat} {tw : List F} {X : Cx}
theorem SX.wf (s : SX G pg Df T Wx ck k tw X) : SX G pg Df T WF ck k tw X := ⟨s.kin, s.gt, s.calm, s.nd, s.nm, s.sc, s.fn, s.room, s.lev, LamX.takes0, s.lam⟩
theorem SX.blk (s : SX G pg Df T Wx ck k tw X) (sh : Shared) (H : Hp) (scope : Scope) (C : Addr) (cl : List (Str × Addr)) (fp : List Addr) : SX G pg Df T WF (blkCk ck scope) k tw (X.blk sh H scope (compEnvC scope cl C X.env) fp) := by
  refine ⟨s.kin, s.gt, s.calm, s.nd, s.nm, ?_, rfl, s.room, ⟨s.lev.l0, s.lev.l1⟩, LamX.takes0, fun h => by cases h⟩
  show relS X.env.scope scope = relS ck.sc scope
  rw [s.sc]
theorem SX.lamIn (s : SX G pg Df T Wx ck k tw X) {j : Nat} {tw' : List F} (l : LevX X G Df j tw') (A : Around) (outer : List PySem.Env) (sh : Shared) (H : Hp) (E : XK) (scope : Scope) (f c' : Addr) (hr : Room j (A.deeper (LamX.lamEnv X scope sh.heap.objs.size f c'))) :
    SX G pg Df T (fun cls d _ H' => E cls d H') (lamCk ck scope) j tw' (LamX.lamCx X A outer sh H E scope f c') :=
  ⟨s.kin, s.gt, rfl, s.nd, s.nm, rfl, rfl, hr, ⟨l.l0, l.l1⟩, takes_lam, fun h => by cases h⟩
theorem SX.gl (s : SX G pg Df T Wx ck k tw X) {x : Str} (h : glB ck.sc x = true) : Gl X x := by
  show X.env.scope.names.lookup x = _
  rw [s.sc]
  exact gl_ok h
end
section
variable (G : Gx) (pg : Pg) (Df : Defs) (T : Tb)
def SndE (e : E) : Prop := ∀ {ck : Ck} {ast : PySem.Expr} {Wx : WX} {k : Nat} {tw : List F} {X : Cx}, chkE T e ck ast = true → SX G pg Df T Wx ck k tw X →
  PE X ast (tE G Wx fun ρ => ev pg tw none e ρ) ∧ (tOk e ast = true → PT X ast (tT G Wx fun ρ => M.bind (ev pg tw none e ρ) M.tru))
def SndEs (es : Es) : Prop := ∀ {ck : Ck} {as : List PySem.Expr} {Wx : WX} {k : Nat} {tw : List F} {X : Cx}, chkEs T es ck as = true → SX G pg Df T Wx ck k tw X → PA X as (tA G Wx fun ρ => evs pg tw none es ρ)
def SndO (o : Op) : Prop := ∀ {ck : Ck} {ast : Option PySem.Expr} {Wx : WX} {k : Nat} {tw : List F} {X : Cx}, chkO T o ck ast = true → SX G pg Df T Wx ck k tw X → PO X ast (tO G Wx fun ρ => evo pg tw none o ρ)
def SndI (it : It) : Prop := ∀ {ck : Ck} {tg ast : PySem.Expr} {Wx : WX} {k : Nat} {tw : List F} {X : Cx}, chkI T it ck tg ast = true → SX G pg Df T Wx ck k tw X → PI X tg ast (tI G Wx fun ρ => evi pg tw none it ρ)
def SndT (t : Tg) : Prop := ∀ {ck : Ck} {ast : PySem.Expr} {Wx : WX} {k : Nat} {tw : List F} {X : Cx}, chkT T t ck ast = true → SX G pg Df T Wx ck k tw X → PG X ast (tG G Wx (tgSlots t) fun w ρ => asgT pg tw none t w ρ)
def SndTs (ts : Tgs) : Prop := ∀ {ck : Ck} {as : List PySem.Expr} {Wx : WX} {k : Nat} {tw : List F} {X : Cx}, chkTs T ts ck as = true → SX G pg Df T Wx ck k tw X → PGs X as (tGs G Wx (tgsSlots ts) fun ws ρ => asgTs pg tw none ts ws ρ)
def SndF (es : Es) : Prop := ∀ {ck : Ck} {as : List PySem.Expr} {Wx : WX} {k : Nat} {tw : List F} {X : Cx}, chkF T es ck as = true → SX G pg Df T Wx ck k tw X → PTs X as (tT G Wx fun ρ => tst pg tw none es ρ)
end
section
variable {G : Gx} {pg : Pg} {Df : Defs} {T : Tb}
theorem evs_len {tw : List F} {th : Option (M W)} : ∀ {es : Es} {ρ : Env} {s s' : Sto} {r : List W}, evs pg tw th es ρ s = some (.ok r, s') → r.length = esLen es
  | .nil, ρ, s, s', r, h => by
    simp only [evs] at h
    cases h
    rfl
  | .cons e es, ρ, s, s', r, h => by
    simp only [evs] at h
    obtain ⟨x, s1, _, h⟩ := bind_ok h
    obtain ⟨xs, s2, h2, h⟩ := bind_ok h
    cases h
    simp [esLen, evs_len h2]
theorem chkEs_len : ∀ {es : Es} {ck : Ck} {as : List PySem.Expr}, chkEs T es ck as = true → esLen es = as.length ∧ as.all plainX = true
  | .nil, ck, [], _ => ⟨rfl, rfl⟩
  | .nil, ck, _ :: _, h => by simp [chkEs] at h
  | .cons _ _, ck, [], h => by simp [chkEs] at h
  | .cons e r, ck, a :: as, h => by
    simp only [chkEs, Bool.and_eq_true] at h
    obtain ⟨h1, h2⟩ := chkEs_len h.2.2
    exact ⟨by simp [esLen, h1], by simp [h.1, h2]⟩
theorem asgTs_len {tw : List F} {th : Option (M W)} : ∀ {ts : Tgs} {ws : List W} {ρ r : Env} {s s' : Sto}, asgTs pg tw th ts ws ρ s = some (.ok r, s') → ws.length = tgsLen ts
  | .nil, [], ρ, r, s, s', h => rfl
  | .nil, _ :: _, ρ, r, s, s', h => by simp only [asgTs] at h; cases h
  | .cons _ _, [], ρ, r, s, s', h => by simp only [asgTs] at h; cases h
  | .cons t ts, w :: ws, ρ, r, s, s', h => by
    simp only [asgTs] at h
    obtain ⟨x, s1, _, h⟩ := bind_ok h
    simp [tgsLen, asgTs_len h]
theorem chkTs_len : ∀ {ts : Tgs} {ck : Ck} {as : List PySem.Expr}, chkTs T ts ck as = true → tgsLen ts = as.length
  | .nil, ck, [], _ => rfl
  | .nil, ck, _ :: _, h => by simp [chkTs] at h
  | .cons _ _, ck, [], h => by simp [chkTs] at h
  | .cons e r, ck, a :: as, h => by
    simp only [chkTs, Bool.and_eq_true] at h
    simp [tgsLen, chkTs_len h.2.2]
/-- tested by its value -/
theorem withT {e : E} {ck : Ck} {ast : PySem.Expr} {Wx : WX} {k : Nat} {tw : List F} {X : Cx} (s : SX G pg Df T Wx ck k tw X) (h : PE X ast (tE G Wx fun ρ => ev pg tw none e ρ)) (ht : tOk e ast = true → simpX ast = true) :
    PE X ast (tE G Wx fun ρ => ev pg tw none e ρ) ∧ (tOk e ast = true → PT X ast (tT G Wx fun ρ => M.bind (ev pg tw none e ρ) M.tru)) :=
  ⟨h, fun hs => pt_truW s.kin h fun whole => simp_ok (ht hs) whole⟩
theorem snd_cst (c : Kc) : SndE G pg Df T (.cst c) := fun {ck ast Wx k tw X} h s => by
  cases ast <;> first | (simp [chkE] at h; done) | skip
  simp only [chkE] at h
  refine withT s ?_ (fun h => h)
  simp only [ev]
  exact pe_cstW h
theorem snd_var (i : Nat) : SndE G pg Df T (.var i) := fun {ck ast Wx k tw X} h s => by
  cases ast <;> first | (simp [chkE] at h; done) | skip
  simp only [chkE, Bool.and_eq_true, decide_eq_true_eq, bne_iff_ne] at h
  obtain ⟨h1, h2, h3, h4⟩ := h
  refine withT s ?_ (fun h => h)
  simp only [ev]
  exact pe_varW (by rw [s.nm]; exact h1) (by rw [s.sc]; exact vis_ok h2) (beq_eq_false_iff_ne.mpr h3) (beq_eq_false_iff_ne.mpr h4)
theorem snd_bin {o : B2} {a b : E} (ha : SndE G pg Df T a) (hb : SndE G pg Df T b) : SndE G pg Df T (.bin o a b) := fun {ck ast Wx k tw X} h s => by
  cases ast <;> first | (simp [chkE] at h; done) | skip
  simp only [chkE, Bool.and_eq_true, decide_eq_true_eq] at h
  obtain ⟨rfl, h1, h2⟩ := h
  refine withT s ?_ (fun h => h)
  simp only [ev]
  exact pe_binW (op_b2 s.kin o) (ha h1 s).1 (hb h2 s).1
theorem snd_neg {a : E} (ha : SndE G pg Df T a) : SndE G pg Df T (.neg a) := fun {ck ast Wx k tw X} h s => by
  cases ast <;> first | (simp [chkE] at h; done) | skip
  rename_i op x p
  cases op <;> first | (simp [chkE] at h; done) | skip
  simp only [chkE] at h
  refine withT s ?_ (fun h => rfl)
  simp only [ev]
  exact pe_negW (ha h s).1
theorem snd_cmp {o : C2} {a b : E} (ha : SndE G pg Df T a) (hb : SndE G pg Df T b) : SndE G pg Df T (.cmp o a b) := fun {ck ast Wx k tw X} h s => by
  match ast, h with
  | .Compare a' [op] [b'] p, h =>
    simp only [chkE, Bool.and_eq_true, decide_eq_true_eq, Bool.not_eq_true'] at h
    obtain ⟨rfl, h0, h1, h2⟩ := h
    simp only [ev]
    exact ⟨pe_cmpW (op_c2 s.kin s.room o) (ha h1 s).1 (hb h2 s).1 h0, fun _ => pt_cmpW (op_c2 s.kin s.room o) (ha h1 s).1 (hb h2 s).1 h0⟩
theorem snd_chn {o p : C2} {a b c : E} (ha : SndE G pg Df T a) (hb : SndE G pg Df T b) (hc : SndE G pg Df T c) : SndE G pg Df T (.chn o p a b c) := fun {ck ast Wx k tw X} h s => by
  match ast, h with
  | .Compare a' [op, oq] [b', c'] _, h =>
    simp only [chkE, Bool.and_eq_true, decide_eq_true_eq, Bool.not_eq_true'] at h
    obtain ⟨rfl, rfl, h0, h1, h2, h3⟩ := h
    simp only [ev]
    exact ⟨pe_chnW s.kin s.room o p (ha h1 s).1 (hb h2 s).1 (hc h3 s).1 h0, fun _ => pt_chnW s.kin s.room o p (ha h1 s).1 (hb h2 s).1 (hc h3 s).1 h0⟩
theorem snd_isN {t : Bool} {a : E} (ha : SndE G pg Df T a) : SndE G pg Df T (.isN t a) := fun {ck ast Wx k tw X} h s => by
  match ast, h with
  | .Compare a' [op] [.Constant .none j p'] _, h =>
    simp only [chkE, Bool.and_eq_true, decide_eq_true_eq] at h
    obtain ⟨rfl, h1⟩ := h
    simp only [ev]
    exact ⟨pe_isNW (ha h1 s).1, fun _ => pt_isNW (ha h1 s).1⟩
theorem snd_inV {t : Bool} {a d : E} (ha : SndE G pg Df T a) (hd : SndE G pg Df T d) : SndE G pg Df T (.inV t a d) := fun {ck ast Wx k tw X} h s => by
  match ast, h with
  | .Compare a' [op] [.Call (.Attribute d' x apos) [] [] cpos] _, h =>
    simp only [chkE, Bool.and_eq_true, decide_eq_true_eq] at h
    obtain ⟨rfl, rfl, hb, hl, h1, h2⟩ := h
    simp only [ev]
    exact ⟨pe_inVW s.calm (ha h1 s).1 (hd h2 s).1 hb hl, fun _ => pt_inVW s.calm (ha h1 s).1 (hd h2 s).1 hb hl⟩
theorem snd_and {a b : E} (ha : SndE G pg Df T a) (hb : SndE G pg Df T b) : SndE G pg Df T (.and_ a b) := fun {ck ast Wx k tw X} h s => by
  match ast, h with
  | .BoolOp .And (a' :: b' :: rest) p, h =>
    simp only [chkE, Bool.and_eq_true] at h
    simp only [ev]
    have hb' : PE X (.BoolOp .And (b' :: rest) p) (tE G Wx fun ρ => ev pg tw none b ρ) ∧ (tOk (.and_ a b) (.BoolOp .And (a' :: b' :: rest) p) = true → PW X (.BoolOp .And (b' :: rest) p) (tT G Wx fun ρ => M.bind (ev pg tw none b ρ) M.tru)) := by
      cases rest with
      | nil =>
        have q := hb h.2 s
        refine ⟨pe_one q.1, fun ht => ?_⟩
        simp only [tOk, Bool.and_eq_true] at ht
        exact pw_and1W (q.2 ht.2)
      | cons c r =>
        have q := hb h.2 s
        refine ⟨q.1, fun ht => ?_⟩
        simp only [tOk, Bool.and_eq_true] at ht
        refine ⟨fun wh pins st σ H Q I hq => ?_⟩
        exact (q.2 ht.2).run pins st σ H Q I hq
    refine ⟨pe_andW s.kin (ha h.1 s).1 hb'.1, fun ht => ?_⟩
    have ht1 := ht
    simp only [tOk, Bool.and_eq_true] at ht1
    exact (pw_andW ((ha h.1 s).2 ht1.1) (hb'.2 ht)).pt
theorem snd_or {a b : E} (ha : SndE G pg Df T a) (hb : SndE G pg Df T b) : SndE G pg Df T (.or_ a b) := fun {ck ast Wx k tw X} h s => by
  match ast, h with
  | .BoolOp .Or (a' :: b' :: rest) p, h =>
    simp only [chkE, Bool.and_eq_true] at h
    simp only [ev]
    have hb' : PE X (.BoolOp .Or (b' :: rest) p) (tE G Wx fun ρ => ev pg tw none b ρ) ∧ (tOk (.or_ a b) (.BoolOp .Or (a' :: b' :: rest) p) = true → PW X (.BoolOp .Or (b' :: rest) p) (tT G Wx fun ρ => M.bind (ev pg tw none b ρ) M.tru)) := by
      cases rest with
      | nil =>
        have q := hb h.2 s
        refine ⟨pe_one q.1, fun ht => ?_⟩
        simp only [tOk, Bool.and_eq_true] at ht
        exact pw_or1W (q.2 ht.2)
      | cons c r =>
        have q := hb h.2 s
        refine ⟨q.1, fun ht => ?_⟩
        simp only [tOk, Bool.and_eq_true] at ht
        refine ⟨fun wh pins st σ H Q I hq => ?_⟩
        exact (q.2 ht.2).run pins st σ H Q I hq
    refine ⟨pe_orW s.kin (ha h.1 s).1 hb'.1, fun ht => ?_⟩
    have ht1 := ht
    simp only [tOk, Bool.and_eq_true] at ht1
    exact (pw_orW ((ha h.1 s).2 ht1.1) (hb'.2 ht)).pt
theorem snd_not {a : E} (ha : SndE G pg Df T a) : SndE G pg Df T (.not_ a) := fun {ck ast Wx k tw X} h s => by
  match ast, h with
  | .UnaryOp .Not a' p, h =>
    simp only [chkE] at h
    simp only [ev]
    exact ⟨pe_notW s.kin (ha h s).1, fun ht => pt_notW ((ha h s).2 (by simpa only [tOk] using ht))⟩
theorem snd_ite {c a b : E} (hc : SndE G pg Df T c) (ha : SndE G pg Df T a) (hb : SndE G pg Df T b) : SndE G pg Df T (.ite c a b) := fun {ck ast Wx k tw X} h s => by
  match ast, h with
  | .IfExp c' a' b' p, h =>
    simp only [chkE, Bool.and_eq_true] at h
    refine withT s ?_ (fun h => by simpa only [tOk] using h)
    simp only [ev]
    exact pe_iteW ((hc h.1.2 s).2 h.1.1) (ha h.2.1 s).1 (hb h.2.2 s).1
end
end Mn

end

section
set_option Elab.async false
set_option linter.all false
set_option maxRecDepth 100000
set_option maxHeartbeats 2000000
/-! Mini: the checker of expressions is sound, second part. -/
namespace Mn
open PySem PySem.Spec PyProof.Rows L2
section
variable {G : Gx} {pg : Pg} {Df : Defs} {T : Tb}
theorem snd_tup {es : Es} (he : SndEs G pg Df T es) : SndE G pg Df T (.tup es) := fun {ck ast Wx k tw X} h s => by
  match ast, h with
  | .Tuple as k2 p, h =>
    simp only [chkE] at h
    refine withT s ?_ (fun h => h)
    simp only [ev]
    exact pe_tupW (he h s)
theorem snd_lst {m : Bool} {es : Es} (he : SndEs G pg Df T es) : SndE G pg Df T (.lst m es) := fun {ck ast Wx k tw X} h s => by
  match ast, h with
  | .List as p, h =>
    simp only [chkE] at h
    refine withT s ?_ (fun h => h)
    simp only [ev]
    exact pe_lstW (he h s)
theorem snd_dct0 : SndE G pg Df T .dct0 := fun {ck ast Wx k tw X} h s => by
  match ast, h with
  | .Dict [] [] p, h =>
    refine withT s ?_ (fun h => h)
    simp only [ev]
    exact pe_dct0W
theorem snd_fld {a : E} {f : Nat} (ha : SndE G pg Df T a) : SndE G pg Df T (.fld a f) := fun {ck ast Wx k tw X} h s => by
  match ast, h with
  | .Attribute a' x p, h =>
    simp only [chkE, Bool.and_eq_true, decide_eq_true_eq] at h
    obtain ⟨h1, h2, h3⟩ := h
    refine withT s ?_ (fun h => h)
    obtain rfl := s.gt.fnm f x h1
    simp only [ev]
    exact pe_fldW s.kin s.gt.txt h2 (ha h3 s).1
theorem snd_idx {a b : E} (ha : SndE G pg Df T a) (hb : SndE G pg Df T b) : SndE G pg Df T (.idx a b) := fun {ck ast Wx k tw X} h s => by
  match ast, h with
  | .Subscript a' b' p, h =>
    cases b' <;> first
      | (simp [chkE, ixX] at h; done)
      | (simp only [chkE, Bool.and_eq_true] at h
         obtain ⟨h1, h2, h3⟩ := h
         refine withT s ?_ (fun h => h)
         simp only [ev]
         exact pe_ixW s.kin s.room (ha h2 s).1 (hb h3 s).1 (ix_plain h1))
theorem snd_slc {a : E} {lo hi : Op} (ha : SndE G pg Df T a) (hl : SndO G pg Df T lo) (hh : SndO G pg Df T hi) : SndE G pg Df T (.slc a lo hi) := fun {ck ast Wx k tw X} h s => by
  match ast, h with
  | .Subscript a' (.Slice l r none p2) p, h =>
    simp only [chkE, Bool.and_eq_true] at h
    obtain ⟨h1, h2, h3⟩ := h
    refine withT s ?_ (fun h => h)
    simp only [ev]
    exact pe_slcW s.kin (ha h1 s).1 (hl h2 s) (hh h3 s)
theorem evs_nil {tw : List F} {es : Es} (h : esLen es = 0) : ∀ ρ, evs pg tw none es ρ = M.ret [] := by
  cases es with
  | nil => intro ρ; simp only [evs]
  | cons e r => simp [esLen] at h
theorem bind_ret {α β : Type} {a : α} {f : α → M β} : M.bind (M.ret a) f = f a := rfl
theorem snd_call {f : Nat} {es : Es} (he : SndEs G pg Df T es) : SndE G pg Df T (.call f es) := fun {ck ast Wx k tw X} h s => by
  match ast, h with
  | .Call (.Name x p1) as [] p, h =>
    simp only [chkE, Bool.and_eq_true, decide_eq_true_eq, bne_iff_ne] at h
    obtain ⟨h1, h2, h3, h4⟩ := h
    obtain ⟨l1, l2⟩ := chkEs_len h4
    obtain ⟨g1, g2, g3, g4, g5⟩ := s.gt.fn x f _ h3
    obtain ⟨j, hj, hlev⟩ := s.lev.l0
    refine withT s ?_ (fun h => h)
    simp only [ev]
    have q := he h4 s
    cases as with
    | nil =>
      have e0 := evs_nil (pg := pg) (tw := tw) (es := es) (by rw [l1]; rfl)
      simp only [e0, bind_ret]
      exact pe_call0W hlev (s.room.mono hj) s.tk g2 (s.gl h1) g1 (by rw [s.kin]; exact g3) (by rw [s.kin]; exact g4) g5 (beq_eq_false_iff_ne.mpr h2)
    | cons e r =>
      exact pe_callW hlev (s.room.mono hj) s.tk g2 (s.gl h1) g1 (by rw [s.kin]; exact g3) (by rw [s.kin]; exact g4) l2 g5.symm (beq_eq_false_iff_ne.mpr h2) q fun ρ st r' s' hr => by rw [evs_len hr, l1]
theorem snd_new {c : Nat} {es : Es} (he : SndEs G pg Df T es) : SndE G pg Df T (.new c es) := fun {ck ast Wx k tw X} h s => by
  match ast, h with
  | .Call (.Name x p1) as [] p, h =>
    simp only [chkE, Bool.and_eq_true, decide_eq_true_eq, bne_iff_ne] at h
    obtain ⟨h1, h2, h3, h4⟩ := h
    obtain ⟨l1, l2⟩ := chkEs_len h4
    obtain ⟨g1, g2, g3, g4, g5⟩ := s.gt.cl x c _ h3
    obtain ⟨j, hj, hlev⟩ := s.lev.l1
    refine withT s ?_ (fun h => h)
    simp only [ev]
    have q := he h4 s
    cases as with
    | nil =>
      have e0 := evs_nil (pg := pg) (tw := tw) (es := es) (by rw [l1]; rfl)
      simp only [e0, bind_ret]
      exact pe_new0W s.kin hlev (s.room.mono hj) s.tk g2 (s.gl h1) g1 (by rw [s.kin]; exact g3) (by rw [s.kin]; exact g4) g5.symm (beq_eq_false_iff_ne.mpr h2)
    | cons e r =>
      exact pe_newW s.kin hlev (s.room.mono hj) s.tk g2 (s.gl h1) g1 (by rw [s.kin]; exact g3) (by rw [s.kin]; exact g4) l2 g5.symm (beq_eq_false_iff_ne.mpr h2) q fun ρ st r' s' hr => by rw [evs_len hr, l1]
theorem snd_meth {a : E} {m : Nat} {es : Es} (ha : SndE G pg Df T a) (he : SndEs G pg Df T es) : SndE G pg Df T (.meth a m es) := fun {ck ast Wx k tw X} h s => by
  match ast, h with
  | .Call (.Attribute o x apos) as [] p, h =>
    simp only [chkE, Bool.and_eq_true, decide_eq_true_eq] at h
    obtain ⟨h1, h2, h3, h4, h5, h6, h7⟩ := h
    obtain ⟨l1, l2⟩ := chkEs_len h7
    have mt := s.gt.mt x m _ h1
    obtain ⟨j, hj, hlev⟩ := s.lev.l0
    obtain rfl := s.gt.fnm m x h2
    refine withT s ?_ (fun h => h)
    simp only [ev]
    have q := he h7 s
    cases as with
    | nil =>
      have e0 := evs_nil (pg := pg) (tw := tw) (es := es) (by rw [l1]; rfl)
      simp only [e0, bind_ret]
      exact pe_meth0W s.kin s.gt.txt hlev (s.room.mono hj) s.tk mt h3 h4 (ha h6 s).1
    | cons e r =>
      exact pe_methW s.kin s.gt.txt hlev (s.room.mono hj) s.tk mt h3 l2 h4 h5 (ha h6 s).1 q fun ρ st r' s' hr => by rw [evs_len hr, l1]
theorem snd_bi {b : Bi} {es : Es} (he : SndEs G pg Df T es) : SndE G pg Df T (.bi b es) := fun {ck ast Wx k tw X} h s => by
  match ast, h with
  | .Call (.Name x p1) as [] p, h =>
    simp only [chkE, Bool.and_eq_true] at h
    obtain ⟨h1, h2, h3⟩ := h
    obtain ⟨l1, l2⟩ := chkEs_len h3
    refine withT s ?_ (fun h => h)
    simp only [ev]
    have q := he h3 s
    have hu : X.A.units + 64 < cLine := unit_ok s.room
    have nm : ∀ y, y ∈ biNames → X.mg y = none := s.gt.bi
    have go : ∀ (y : Str) (n : Nat) (t : Bool), biSig b = some (y, n, t) → y = x ∧ n = as.length := fun y n t e => by
      rw [e] at h1
      simpa using h1
    cases as with
    | nil =>
      exfalso
      cases b <;> first | cases h1 | (have := (go _ _ _ rfl).2; cases this)
    | cons e r =>
      cases b with
      | len =>
        obtain ⟨rfl, _⟩ := go _ _ _ rfl
        exact pe_biW cb_len (s.gl h2) (nm _ (by decide)) rfl q (by decide) (by decide) l2
      | int =>
        obtain ⟨rfl, _⟩ := go _ _ _ rfl
        exact pe_tyW cb_int (s.gl h2) (nm _ (by decide)) rfl q (by decide) (by decide) l2
      | abs =>
        obtain ⟨rfl, _⟩ := go _ _ _ rfl
        exact pe_biW cb_abs (s.gl h2) (nm _ (by decide)) rfl q (by decide) (by decide) l2
      | min2 =>
        obtain ⟨rfl, _⟩ := go _ _ _ rfl
        exact pe_biW (cb_min2 s.calm) (s.gl h2) (nm _ (by decide)) rfl q (by decide) (by decide) l2
      | max2 =>
        obtain ⟨rfl, _⟩ := go _ _ _ rfl
        exact pe_biW (cb_max2 s.calm) (s.gl h2) (nm _ (by decide)) rfl q (by decide) (by decide) l2
      | min1 =>
        obtain ⟨rfl, _⟩ := go _ _ _ rfl
        exact pe_biW (cb_min1 s.calm) (s.gl h2) (nm _ (by decide)) rfl q (by decide) (by decide) l2
      | max1 =>
        obtain ⟨rfl, _⟩ := go _ _ _ rfl
        exact pe_biW (cb_max1 s.calm) (s.gl h2) (nm _ (by decide)) rfl q (by decide) (by decide) l2
      | sum =>
        obtain ⟨rfl, _⟩ := go _ _ _ rfl
        exact pe_biW (cb_sum s.calm) (s.gl h2) (nm _ (by decide)) rfl q (by decide) (by decide) l2
      | sorted =>
        obtain ⟨rfl, _⟩ := go _ _ _ rfl
        exact pe_biW (cb_sorted s.calm) (s.gl h2) (nm _ (by decide)) rfl q (by decide) (by decide) l2
      | sortS =>
        obtain ⟨rfl, _⟩ := go _ _ _ rfl
        exact pe_biW (cb_sortS s.calm) (s.gl h2) (nm _ (by decide)) rfl q (by decide) (by decide) l2
      | sortT =>
        obtain ⟨rfl, _⟩ := go _ _ _ rfl
        exact pe_biW (cb_sortT s.calm) (s.gl h2) (nm _ (by decide)) rfl q (by decide) (by decide) l2
      | tuple =>
        obtain ⟨rfl, _⟩ := go _ _ _ rfl
        exact pe_tyW cb_tuple (s.gl h2) (nm _ (by decide)) rfl q (by decide) (by decide) l2
      | list m =>
        obtain ⟨rfl, _⟩ := go _ _ _ rfl
        exact pe_tyW cb_list (s.gl h2) (nm _ (by decide)) rfl q (by decide) (by decide) l2
      | listd m =>
        obtain ⟨rfl, _⟩ := go _ _ _ rfl
        exact pe_tyW (cb_listd s.calm) (s.gl h2) (nm _ (by decide)) rfl q (by decide) (by decide) l2
      | dict =>
        obtain ⟨rfl, _⟩ := go _ _ _ rfl
        exact pe_tyW (cb_dict s.calm hu) (s.gl h2) (nm _ (by decide)) rfl q (by decide) (by decide) l2
      | _ => cases h1
theorem snd_lkd {i : Nat} {f : Option Nat} {e : E} (he : SndE G pg Df T e) : SndE G pg Df T (.lkd i f e) := fun {ck ast Wx k tw X} h s => by
  simp only [chkE] at h
  refine withT s ?_ (fun h => by simp [tOk] at h)
  simp only [ev]
  exact pe_lkdW i f (he h s).1
theorem snd_litems {m : Bool} {d : E} (hd : SndE G pg Df T d) : SndE G pg Df T (.litems m d) := fun {ck ast Wx k tw X} h s => by
  match ast, h with
  | .Call (.Name x p1) [.Call (.Attribute d' y apos) [] [] cpos] [] p, h =>
    simp only [chkE, Bool.and_eq_true, decide_eq_true_eq] at h
    obtain ⟨⟨rfl, rfl⟩, h1, h2, h3, h4⟩ := h
    refine withT s ?_ (fun h => h)
    simp only [ev]
    exact pe_litemsW s.calm (hd h4 s).1 (s.gl h1) (s.gt.bi _ (by decide)) h2 h3
theorem snd_dget {d e x : E} (hd : SndE G pg Df T d) (he : SndE G pg Df T e) (hx : SndE G pg Df T x) : SndE G pg Df T (.dget d e x) := fun {ck ast Wx k tw X} h s => by
  match ast, h with
  | .Call (.Attribute d' y apos) [k', x'] [] cpos, h =>
    simp only [chkE, Bool.and_eq_true, decide_eq_true_eq] at h
    obtain ⟨rfl, h1, h2, h3, h4, h5, h6, h7⟩ := h
    refine withT s ?_ (fun h => h)
    simp only [ev]
    exact pe_dgetW s.room (hd h5 s).1 (he h6 s).1 (hx h7 s).1 h1 h2 h3 h4
theorem snd_esnil : SndEs G pg Df T .nil := fun {ck as Wx k tw X} h s => by
  cases as with
  | nil => simp only [evs]; exact pa_nilW
  | cons a r => simp [chkEs] at h
theorem snd_escons {e : E} {r : Es} (he : SndE G pg Df T e) (hr : SndEs G pg Df T r) : SndEs G pg Df T (.cons e r) := fun {ck as Wx k tw X} h s => by
  cases as with
  | nil => simp [chkEs] at h
  | cons a as =>
    simp only [chkEs, Bool.and_eq_true] at h
    simp only [evs]
    exact pa_consW (he h.2.1 s).1 (hr h.2.2 s) (starEach_plain h.1)
theorem snd_ono : SndO G pg Df T .no := fun {ck ast Wx k tw X} h s => by
  cases ast with
  | none => simp only [evo]; exact po_noW
  | some a => simp [chkO] at h
theorem snd_oso {e : E} (he : SndE G pg Df T e) : SndO G pg Df T (.so e) := fun {ck ast Wx k tw X} h s => by
  cases ast with
  | none => simp [chkO] at h
  | some a =>
    simp only [chkO] at h
    simp only [evo]
    exact po_soW (he h s).1
theorem snd_iseq {e : E} (he : SndE G pg Df T e) : SndI G pg Df T (.seq e) := fun {ck tg ast Wx k tw X} h s => by
  simp only [chkI] at h
  simp only [evi]
  exact pi_seqW (he h s).1
theorem snd_ikeys {e : E} (he : SndE G pg Df T e) : SndI G pg Df T (.keys e) := fun {ck tg ast Wx k tw X} h s => by
  simp only [chkI] at h
  simp only [evi]
  exact pi_keysW (he h s).1
theorem snd_irng1 {a : E} (ha : SndE G pg Df T a) : SndI G pg Df T (.rng1 a) := fun {ck tg ast Wx k tw X} h s => by
  match ast, h with
  | .Call (.Name x p1) [a'] [] p, h =>
    simp only [chkI, Bool.and_eq_true, decide_eq_true_eq] at h
    obtain ⟨rfl, h1, h2, h3⟩ := h
    simp only [evi]
    exact pi_rng1W (s.gl h1) (s.gt.bi _ (by decide)) (ha h3 s).1 h2
theorem snd_irng2 {a b : E} (ha : SndE G pg Df T a) (hb : SndE G pg Df T b) : SndI G pg Df T (.rng2 a b) := fun {ck tg ast Wx k tw X} h s => by
  match ast, h with
  | .Call (.Name x p1) [a', b'] [] p, h =>
    simp only [chkI, Bool.and_eq_true, decide_eq_true_eq] at h
    obtain ⟨rfl, h1, h2, h3, h4, h5⟩ := h
    simp only [evi]
    exact pi_rng2W (s.gl h1) (s.gt.bi _ (by decide)) (ha h4 s).1 (hb h5 s).1 h2 h3
theorem snd_ienum {a : E} (ha : SndE G pg Df T a) : SndI G pg Df T (.enum a) := fun {ck tg ast Wx k tw X} h s => by
  match tg, ast, h with
  | .Tuple es kk tp, .Call (.Name x p1) [a'] [] p, h =>
    simp only [chkI, Bool.and_eq_true, decide_eq_true_eq] at h
    obtain ⟨rfl, h1, h2, h3⟩ := h
    simp only [evi]
    exact pi_enumW (s.gl h1) (s.gt.bi _ (by decide)) (ha h3 s).1 h2
theorem snd_ivals {a : E} (ha : SndE G pg Df T a) : SndI G pg Df T (.vals a) := fun {ck tg ast Wx k tw X} h s => by
  match ast, h with
  | .Call (.Attribute d x apos) [] [] cpos, h =>
    simp only [chkI, Bool.and_eq_true, decide_eq_true_eq] at h
    obtain ⟨rfl, h1, h2, h3⟩ := h
    simp only [evi]
    exact pi_valsW (ha h3 s).1 h1 h2
theorem snd_iitems {a : E} (ha : SndE G pg Df T a) : SndI G pg Df T (.items a) := fun {ck tg ast Wx k tw X} h s => by
  match tg, ast, h with
  | .Tuple es kk tp, .Call (.Attribute d x apos) [] [] cpos, h =>
    simp only [chkI, Bool.and_eq_true, decide_eq_true_eq] at h
    obtain ⟨rfl, h1, h2, h3⟩ := h
    simp only [evi]
    exact pi_itemsW (ha h3 s).1 h1 h2
theorem snd_irng3 {a b c : E} : SndI G pg Df T (.rng3 a b c) := fun {ck tg ast Wx k tw X} h s => by simp [chkI] at h
theorem snd_izip {a b : E} : SndI G pg Df T (.zip a b) := fun {ck tg ast Wx k tw X} h s => by simp [chkI] at h
theorem snd_tvar (i : Nat) : SndT G pg Df T (.var i) := fun {ck ast Wx k tw X} h s => by
  match ast, h with
  | .Name x p, h =>
    simp only [chkT, Bool.and_eq_true, Bool.or_eq_true, decide_eq_true_eq] at h
    obtain ⟨h1, h2, h3⟩ := h
    simp only [asgT, tgSlots]
    exact pg_varW s.nd (by rw [s.nm]; exact h1) (by rw [s.sc]; exact loc_ok h2) (by rw [s.fn, s.sc]; exact h3)
theorem snd_ttup {ts : Tgs} (ht : SndTs G pg Df T ts) : SndT G pg Df T (.tup ts) := fun {ck ast Wx k tw X} h s => by
  match ast, h with
  | .Tuple as k2 p, h =>
    simp only [chkT, Bool.and_eq_true] at h
    simp only [asgT, tgSlots]
    exact pg_tupW s.calm (ht h.2 s) h.1 fun ws ρ st r s' hr => by rw [asgTs_len hr, chkTs_len h.2]
theorem snd_tsub {a b : E} (ha : SndE G pg Df T a) (hb : SndE G pg Df T b) : SndT G pg Df T (.sub a b) := fun {ck ast Wx k tw X} h s => by
  match ast, h with
  | .Subscript a' b' p, h =>
    simp only [chkT, Bool.and_eq_true] at h
    obtain ⟨h1, h2, h3⟩ := h
    simp only [asgT, tgSlots]
    exact pg_subW s.kin s.room (ha h2 s.wf).1 (hb h3 s.wf).1 h1
theorem snd_tsnil : SndTs G pg Df T .nil := fun {ck as Wx k tw X} h s => by
  cases as with
  | nil =>
    have e : (fun (ws : List W) (ρ : Env) => asgTs pg tw none .nil ws ρ) = fun ws ρ => match ws with
      | [] => M.ret ρ
      | _ => M.no := by
      funext ws ρ
      cases ws <;> simp only [asgTs]
    rw [e]
    exact pgs_nilW
  | cons a r => simp [chkTs] at h
theorem snd_tscons {t : Tg} {r : Tgs} (ht : SndT G pg Df T t) (hr : SndTs G pg Df T r) : SndTs G pg Df T (.cons t r) := fun {ck as Wx k tw X} h s => by
  cases as with
  | nil => simp [chkTs] at h
  | cons a as =>
    simp only [chkTs, Bool.and_eq_true] at h
    have e : (fun (ws : List W) (ρ : Env) => asgTs pg tw none (.cons t r) ws ρ) = fun ws ρ => match ws with
      | w :: q => M.bind (asgT pg tw none t w ρ) fun ρ' => asgTs pg tw none r q ρ'
      | [] => M.no := by
      funext ws ρ
      cases ws <;> simp only [asgTs]
    rw [e]
    exact pgs_consW (ht h.2.1 s) (hr h.2.2 s) h.1
theorem snd_fnil : SndF G pg Df T .nil := fun {ck as Wx k tw X} h s => by
  cases as with
  | nil => simp only [tst]; exact pts_nilW
  | cons a r => simp [chkF] at h
theorem snd_fcons {e : E} {r : Es} (he : SndE G pg Df T e) : SndF G pg Df T (.cons e r) := fun {ck as Wx k tw X} h s => by
  match r, as, h with
  | .nil, [a], h =>
    simp only [chkF, Bool.and_eq_true] at h
    simp only [tst]
    exact pts_oneW ((he h.2 s).2 h.1)
theorem own_slots {N : List Str} (l : List Nat) : (l.map fun i : Nat => (((N[i]? : Option Str)).getD "", i)).map (·.2) = l := by
  rw [List.map_map]
  exact List.map_id'' (fun _ => rfl) l
theorem snd_tfld {o : E} {f : Nat} : SndT G pg Df T (.fld o f) := fun {ck ast Wx k tw X} h s => by simp [chkT] at h
theorem snd_comp {m : Bool} {elt : E} {t : Tg} {it : It} {ts : Es} (he : SndE G pg Df T elt) (ht : SndT G pg Df T t) (hi : SndI G pg Df T it) (hf : SndF G pg Df T ts) : SndE G pg Df T (.comp m elt t it ts) := fun {ck ast Wx k tw X} h s => by
  match ast, h with
  | .ListComp elt' [⟨tg, iter, ifs, 0⟩] scope p, h =>
    simp only [chkE, Bool.and_eq_true] at h
    obtain ⟨h1, h2, h3, h4, h5, h6⟩ := h
    refine withT s ?_ (fun h => h)
    have ok : BlkOk X.N X.env.scope scope ((tgSlots t).map fun i => ((ck.N[i]?).getD "", i)) := by
      rw [s.nm, s.sc]
      exact blkOk_by h1
    have q := pe_lcW (m := m) (pos := p) (Wx := Wx) (ri := fun ρ => evi pg tw none it ρ) (ga := fun w ρ => asgT pg tw none t w ρ) (rt := fun ρ => tst pg tw none ts ρ) (re := fun ρ => ev pg tw none elt ρ) s.calm s.nd (hi h3 s) ok (own_slots _)
      (fun sh H C cl fp => ht h4 (s.blk sh H scope C cl fp)) (fun sh H C cl fp => hf h5 (s.blk sh H scope C cl fp)) (fun sh H C cl fp => (he h6 (s.blk sh H scope C cl fp)).1) fun x => folded_ok h2 x
    simp only [ev]
    exact q
theorem snd_lam {f : Nat} {body : E} (hb : SndE G pg Df T body) : SndE G pg Df T (.lam f body) := fun {ck ast Wx k tw X} h s => by
  match ast, h with
  | .Call (.Name x p1) [.Lambda params body' scope lp] [] p, h =>
    simp only [chkE, Bool.and_eq_true, decide_eq_true_eq] at h
    obtain ⟨h0, h1, ⟨rfl, rfl⟩, h3, h4, h5⟩ := h
    obtain rfl := noArgs_ok h4
    have L := s.lam h0
    obtain ⟨c, P, l1, l2, l3, l4⟩ := L.tab
    obtain ⟨j, hj, lv⟩ := L.lev
    obtain ⟨a, g, pgs, sg, dV, kV, doc, pm, cdv, ct, oc, an, od, osl, Ng, q1, q2, q3, q8, h₀, hs, t1, t2, t3, t4, t5, t6, t7, t8, t9, t10, t11, t12, t13⟩ := s.gt.told
    refine withT s ?_ (fun h => h)
    have q : PE X (.Call (.Name T.tname p1) [.Lambda ⟨[], [], none, [], [], none, []⟩ body' scope lp] [] p) (tE G Wx fun ρ => toldM pg T.tcs (ev pg (tw.drop 2) none body ρ)) :=
      pe_lamW (k := j) s.kin s.gt.sub (s.gl h1) t1 (by rw [s.kin]; exact t2) (by rw [s.kin]; exact t3) (by rw [s.kin]; exact t4) (by rw [s.kin]; exact t5) t6 t7 t8 t9 t10 l1 l2 l3 l4 (s.room.mono hj)
        (by rw [s.sc]; exact LamX.lamS_by h3) rfl (fun _ _ _ _ _ => rfl) (fun A outer sh H E f c' hr => (hb h5 (s.lamIn lv A outer sh H E scope f c' hr)).1) t11 t12 t13
    refine PE.imp q fun σ H Q ⟨R, st, ι, ρ, S, D, Pq⟩ => ⟨R, st, ι, ρ, S, D, ?_⟩
    have Pq : Post G Wx σ R st ι H (ev pg tw none (.lam T.tfid body) ρ st) fun w s' ι' H' => ∀ v, Den G (FzH G R s' ι' H') ι' w v → Q v H' := Pq
    simp only [ev] at Pq
    rcases L.told (ev pg (tw.drop 2) none body ρ) st with e | e
    · rw [e] at Pq; exact Pq.elim
    · rw [e] at Pq; exact Pq
theorem snd_no {e : E} (h : ∀ ck ast, chkE T e ck ast = false) : SndE G pg Df T e := fun {ck ast Wx k tw X} hc s => by
  rw [h] at hc
  cases hc
mutual
theorem sndE : ∀ e : E, SndE G pg Df T e
  | .cst k => snd_cst k
  | .var i => snd_var i
  | .glob _ => snd_no fun ck ast => by simp [chkE]
  | .bin _ a b => snd_bin (sndE a) (sndE b)
  | .neg a => snd_neg (sndE a)
  | .cmp _ a b => snd_cmp (sndE a) (sndE b)
  | .chn _ _ a b c => snd_chn (sndE a) (sndE b) (sndE c)
  | .isN _ a => snd_isN (sndE a)
  | .and_ a b => snd_and (sndE a) (sndE b)
  | .or_ a b => snd_or (sndE a) (sndE b)
  | .not_ a => snd_not (sndE a)
  | .ite c a b => snd_ite (sndE c) (sndE a) (sndE b)
  | .tup es => snd_tup (sndEs es)
  | .lst _ es => snd_lst (sndEs es)
  | .dct0 => snd_dct0
  | .fld a _ => snd_fld (sndE a)
  | .idx a b => snd_idx (sndE a) (sndE b)
  | .slc a lo hi => snd_slc (sndE a) (sndO lo) (sndO hi)
  | .call _ es => snd_call (sndEs es)
  | .new _ es => snd_new (sndEs es)
  | .meth a _ es => snd_meth (sndE a) (sndEs es)
  | .bi _ es => snd_bi (sndEs es)
  | .bm _ _ _ => snd_no fun ck ast => by simp [chkE]
  | .comp _ elt t it ts => snd_comp (sndE elt) (sndT t) (sndI it) (sndF ts)
  | .comp2 _ _ _ _ _ _ => snd_no fun ck ast => by simp [chkE]
  | .gen _ _ _ _ _ => snd_no fun ck ast => by simp [chkE]
  | .lam _ body => snd_lam (sndE body)
  | .thk => snd_no fun ck ast => by simp [chkE]
  | .lkd _ _ e => snd_lkd (sndE e)
  | .inV _ a d => snd_inV (sndE a) (sndE d)
  | .litems _ d => snd_litems (sndE d)
  | .dget d k x => snd_dget (sndE d) (sndE k) (sndE x)
theorem sndEs : ∀ es : Es, SndEs G pg Df T es
  | .nil => snd_esnil
  | .cons e r => snd_escons (sndE e) (sndEs r)
theorem sndO : ∀ o : Op, SndO G pg Df T o
  | .no => snd_ono
  | .so e => snd_oso (sndE e)
theorem sndI : ∀ it : It, SndI G pg Df T it
  | .seq e => snd_iseq (sndE e)
  | .rng1 a => snd_irng1 (sndE a)
  | .rng2 a b => snd_irng2 (sndE a) (sndE b)
  | .rng3 _ _ _ => snd_irng3
  | .enum e => snd_ienum (sndE e)
  | .zip _ _ => snd_izip
  | .keys e => snd_ikeys (sndE e)
  | .vals e => snd_ivals (sndE e)
  | .items e => snd_iitems (sndE e)
theorem sndT : ∀ t : Tg, SndT G pg Df T t
  | .var i => snd_tvar i
  | .tup ts => snd_ttup (sndTs ts)
  | .sub o i => snd_tsub (sndE o) (sndE i)
  | .fld _ _ => snd_tfld
theorem sndTs : ∀ ts : Tgs, SndTs G pg Df T ts
  | .nil => snd_tsnil
  | .cons t r => snd_tscons (sndT t) (sndTs r)
theorem sndF : ∀ es : Es, SndF G pg Df T es
  | .nil => snd_fnil
  | .cons e _ => snd_fcons (sndE e)
end
end
end Mn

end

section
set_option Elab.async false
set_option linter.all false
set_option maxRecDepth 100000
set_option maxHeartbeats 2000000
/-! Mini: the checker of statements. -/
namespace Mn
open PySem PySem.Spec PyProof.Rows L2
def bKind (sc : Scope) : ScopeKind := if sc.kind.isAnnotationScope then .function else sc.kind
/-- what swapsWith says -/
def swB (sc : Scope) (v tg : PySem.Expr) : Bool := match v with
  | .ListComp _ _ s p | .SetComp _ _ s p | .DictComp _ _ _ s p => (match tg with
    | .Name t pos => bKind sc == .function && sc.names.lookup t == some .local && pos.line == p.line && !(s.names.any fun (n, k) => n == t && (k == .local || k == .cell))
    | _ => false)
  | _ => false
theorem swB_ok {v tg : PySem.Expr} {line : Nat} {env : PySem.Env} : swapsWith v (some tg) line env = pure (swB env.scope v tg) := by
  cases v with
  | ListComp a b s p => cases tg <;> rfl
  | SetComp a b s p => cases tg <;> rfl
  | DictComp a b c s p => cases tg <;> rfl
  | _ => rfl
def notComp : PySem.Expr → Bool
  | .ListComp _ _ _ _ => false
  | .SetComp _ _ _ _ => false
  | .DictComp _ _ _ _ _ => false
  | _ => true
theorem notComp_ok {v : PySem.Expr} {t : Option PySem.Expr} {line : Nat} {env : PySem.Env} (h : notComp v = true) : swapsWith v t line env = pure false := by
  cases v <;> first | (simp [notComp] at h; done) | rfl
def isStar : PySem.Expr → Bool
  | .Starred _ _ => true
  | _ => false
/-- what swappedStores says of two displays -/
def swSt (sc : Scope) (ts vs : List PySem.Expr) : Option (Option (List Str)) :=
  if !(ts.length == 2 || ts.length == 3) || vs.length != ts.length || bKind sc != .function then some none
  else if vs.any (fun | .Starred .. => true | _ => false) then some none
  else
    let line := (ts.head?.map (·.pos.line)).getD 0
    let names := ts.filterMap fun
      | .Name id pos => if sc.names.lookup id == some .local && pos.line == line then some id else none
      | _ => none
    if names.length != ts.length || names.eraseDups.length != names.length then some none
    else if vs.all (foldedForSure 8) then some none
    else if vs.all (constantsAlone 8) then none
    else some (some names)
theorem swSt_ok {ts vs : List PySem.Expr} {k k2 : Nat} {p p2 : Pos} {env : PySem.Env} {r : Option (List Str)} (h : swSt env.scope ts vs = some r) : swappedStores [.Tuple ts k p] (.Tuple vs k2 p2) env = pure r := by
  unfold swSt at h
  unfold swappedStores
  show (if (!(ts.length == 2 || ts.length == 3) || vs.length != ts.length || env.blockKind != .function) = true then _ else _) = _
  split at h
  · rename_i c
    cases h
    exact if_pos c
  · rename_i c
    refine (if_neg c).trans ?_
    split at h
    · rename_i c
      cases h
      exact if_pos c
    · rename_i c
      refine (if_neg c).trans ?_
      simp only at h
      split at h
      · rename_i c
        cases h
        exact if_pos c
      · rename_i c
        refine (if_neg c).trans ?_
        split at h
        · rename_i c
          cases h
          exact if_pos c
        · rename_i c
          refine (if_neg c).trans ?_
          split at h
          · cases h
          · rename_i c
            cases h
            exact if_neg c
/-- a store that is none of the two displays -/
def plainTg : PySem.Expr → PySem.Expr → Bool
  | .Tuple _ _ _, .Tuple _ _ _ => false
  | .List _ _, _ => false
  | _, _ => true
theorem plainTg_ok {tg v : PySem.Expr} {env : PySem.Env} (h : plainTg tg v = true) : swappedStores [tg] v env = pure none := by
  cases tg <;> cases v <;> first | (simp [plainTg] at h; done) | rfl
/-- how the stores stand: none: no word -/
def swAll (sc : Scope) (tg v : PySem.Expr) : Option (Option (List Str)) := match tg, v with
  | .Tuple ts _ _, .Tuple vs _ _ => swSt sc ts vs
  | tg, v => if plainTg tg v then some none else none
theorem swAll_ok {tg v : PySem.Expr} {env : PySem.Env} {r : Option (List Str)} (h : swAll env.scope tg v = some r) : swappedStores [tg] v env = pure r := by
  unfold swAll at h
  split at h
  · exact swSt_ok h
  · split at h
    · rename_i c
      cases h
      exact plainTg_ok c
    · cases h
/-- the two or three names stored together -/
def parOk (ck : Ck) (t : Tg) (tg : PySem.Expr) (names : List Str) : Bool := match t, tg, names with
  | .tup (.cons (.var i) (.cons (.var j) .nil)), .Tuple [.Name x _, .Name y _] _ _, [x', y'] =>
    decide (ck.N[i]? = some x ∧ ck.N[j]? = some y ∧ i ≠ j ∧ x = x' ∧ y = y' ∧ ck.sc.names.lookup x = some .local ∧ ck.sc.names.lookup y = some .local)
  | .tup (.cons (.var i) (.cons (.var j) (.cons (.var l) .nil))), .Tuple [.Name x _, .Name y _, .Name z _] _ _, [x', y', z'] =>
    decide (ck.N[i]? = some x ∧ ck.N[j]? = some y ∧ ck.N[l]? = some z ∧ i ≠ j ∧ i ≠ l ∧ j ≠ l ∧ x = x' ∧ y = y' ∧ z = z' ∧ ck.sc.names.lookup x = some .local ∧ ck.sc.names.lookup y = some .local ∧ ck.sc.names.lookup z = some .local)
  | _, _, _ => false
/-- the displays behind them -/
def parE (T : Tb) : E → Ck → PySem.Expr → Bool
  | .tup es, ck, .Tuple as _ _ => chkEs T es ck as
  | _, _, _ => false
/-- x = [..] where x's slot is swapped -/
def setLcB (T : Tb) : Tg → E → Ck → PySem.Expr → PySem.Expr → Bool
  | .var i, .comp m elt t2 it ts, ck, .Name y _, .ListComp elt' gs scope p => decide (ck.N[i]? = some y ∧ ck.sc.names.lookup y = some .local) && chkE T (.comp m elt t2 it ts) ck (.ListComp elt' gs scope p)
  | _, _, _, _, _ => false
/-- o.f = e -/
def fldB (T : Tb) : Tg → E → Ck → PySem.Expr → PySem.Expr → Bool
  | .fld o f, e, ck, .Attribute a x _, v => decide (T.fnm[f]? = some x) && (chkE T o ck a && chkE T e ck v)
  | _, _, _, _, _ => false
def isFldT : Tg → Bool
  | .fld _ _ => true
  | _ => false
def chkA (T : Tb) (t : Tg) (e : E) (ck : Ck) (tg v : PySem.Expr) : Bool :=
  if swB ck.sc v tg then setLcB T t e ck tg v
  else if isFldT t then fldB T t e ck tg v
  else plainX tg && (match swAll ck.sc tg v with
    | some none => chkE T e ck v && chkT T t ck tg
    | some (some names) => parOk ck t tg names && parE T e ck v
    | none => false)
/-! the statements' parts -/
def asExpr : Stmt → Option PySem.Expr
  | .Expr a _ => some a
  | _ => none
theorem asExpr_ok {st : Stmt} {a : PySem.Expr} (h : asExpr st = some a) : ∃ p, st = .Expr a p := by
  cases st <;> first | (cases h; done) | (cases h; exact ⟨_, rfl⟩)
def asAsg : Stmt → Option (PySem.Expr × PySem.Expr)
  | .Assign [tg] v _ => some (tg, v)
  | _ => none
theorem asAsg_ok {st : Stmt} {tg v : PySem.Expr} (h : asAsg st = some (tg, v)) : ∃ p, st = .Assign [tg] v p := by
  unfold asAsg at h
  split at h
  · cases h; exact ⟨_, rfl⟩
  · cases h
def asRet : Stmt → Option (Option PySem.Expr)
  | .Return a _ => some a
  | _ => none
theorem asRet_ok {st : Stmt} {a : Option PySem.Expr} (h : asRet st = some a) : ∃ p, st = .Return a p := by
  cases st <;> first | (cases h; done) | (cases h; exact ⟨_, rfl⟩)
def asIf : Stmt → Option (PySem.Expr × List Stmt × List Stmt)
  | .If c a b _ => some (c, a, b)
  | _ => none
theorem asIf_ok {st : Stmt} {c : PySem.Expr} {a b : List Stmt} (h : asIf st = some (c, a, b)) : ∃ p, st = .If c a b p := by
  cases st <;> first | (cases h; done) | (cases h; exact ⟨_, rfl⟩)
def asWhile : Stmt → Option (PySem.Expr × List Stmt)
  | .While c a [] _ => some (c, a)
  | _ => none
theorem asWhile_ok {st : Stmt} {c : PySem.Expr} {a : List Stmt} (h : asWhile st = some (c, a)) : ∃ p, st = .While c a [] p := by
  unfold asWhile at h
  split at h
  · cases h; exact ⟨_, rfl⟩
  · cases h
def asFor : Stmt → Option (PySem.Expr × PySem.Expr × List Stmt)
  | .For t i a [] _ => some (t, i, a)
  | _ => none
theorem asFor_ok {st : Stmt} {t i : PySem.Expr} {a : List Stmt} (h : asFor st = some (t, i, a)) : ∃ p, st = .For t i a [] p := by
  unfold asFor at h
  split at h
  · cases h; exact ⟨_, rfl⟩
  · cases h
def asRaise : Stmt → Option (Str × PySem.Expr)
  | .Raise (some (.Call (.Name x _) [a] [] _)) none _ => some (x, a)
  | _ => none
theorem asRaise_ok {st : Stmt} {x : Str} {a : PySem.Expr} (h : asRaise st = some (x, a)) : ∃ p1 p2 p, st = .Raise (some (.Call (.Name x p1) [a] [] p2)) none p := by
  unfold asRaise at h
  split at h
  · cases h; exact ⟨_, _, _, rfl⟩
  · cases h
def asDel : Stmt → Option (PySem.Expr × PySem.Expr)
  | .Delete [.Subscript a b _] _ => some (a, b)
  | _ => none
theorem asDel_ok {st : Stmt} {a b : PySem.Expr} (h : asDel st = some (a, b)) : ∃ p1 p, st = .Delete [.Subscript a b p1] p := by
  unfold asDel at h
  split at h
  · cases h; exact ⟨_, _, rfl⟩
  · cases h
def isBrk : Stmt → Bool
  | .Break _ => true
  | _ => false
theorem isBrk_ok {st : Stmt} (h : isBrk st = true) : ∃ p, st = .Break p := by
  cases st <;> first | (cases h; done) | exact ⟨_, rfl⟩
def isCnt : Stmt → Bool
  | .Continue _ => true
  | _ => false
theorem isCnt_ok {st : Stmt} (h : isCnt st = true) : ∃ p, st = .Continue p := by
  cases st <;> first | (cases h; done) | exact ⟨_, rfl⟩
def isPass : Stmt → Bool
  | .Pass _ => true
  | .Expr (.Constant (.str _) _ _) _ => true
  | _ => false
theorem isPass_ok {st : Stmt} (h : isPass st = true) : (∃ p, st = .Pass p) ∨ ∃ x j p1 p2, st = .Expr (.Constant (.str x) j p1) p2 := by
  unfold isPass at h
  split at h
  · exact .inl ⟨_, rfl⟩
  · exact .inr ⟨_, _, _, _, rfl⟩
  · cases h
mutual
def chkS (T : Tb) (ck : Ck) : S → Stmt → Bool
  | .expr e, st => (match asExpr st with
    | some a => notComp a && chkE T e ck a
    | none => false)
  | .asg t e, st => (match asAsg st with
    | some (tg, v) => chkA T t e ck tg v
    | none => false)
  | .ret e, st => (match asRet st with
    | some (some a) => chkE T e ck a
    | _ => false)
  | .ret0, st => (match asRet st with
    | some none => true
    | _ => false)
  | .iff c a b, st => (match asIf st with
    | some (c', bs, cs) => (tOk c c' && chkE T c ck c') && (chkSs T ck a bs && chkSs T ck b cs)
    | none => false)
  | .whil _ c a, st => (match asWhile st with
    | some (c', bs) => (tOk c c' && chkE T c ck c') && chkSs T ck a bs
    | none => false)
  | .forr t it a, st => (match asFor st with
    | some (tg, iter, bs) => chkT T t ck tg && (chkI T it ck tg iter && (notSet iter && chkSs T ck a bs))
    | none => false)
  | .rais c e, st => (match asRaise st with
    | some (x, a) => glB ck.sc x && (x != "__debug__" && (decide (T.excs.lookup x = some c) && (plainX a && chkE T e ck a)))
    | none => false)
  | .del o i, st => (match asDel st with
    | some (a, b) => chkE T o ck a && chkE T i ck b
    | none => false)
  | .brk, st => isBrk st
  | .cnt, st => isCnt st
  | .pass, st => isPass st
  | .lkd _ _ s, st => chkS T ck s st
  | _, _ => false
def chkSs (T : Tb) (ck : Ck) : Ss → List Stmt → Bool
  | .nil, [] => true
  | .cons s r, st :: sts => chkS T ck s st && chkSs T ck r sts
  | _, _ => false
end
end Mn

end

section
set_option Elab.async false
set_option linter.all false
set_option maxRecDepth 100000
set_option maxHeartbeats 2000000
/-! Mini: the checker of statements is sound. -/
namespace Mn
open PySem PySem.Spec PyProof.Rows L2
structure SXs (G : Gx) (pg : Pg) (Df : Defs) (T : Tb) (Wx : WX) (ck : Ck) (k : Nat) (tw : List F) (X : Cx) : Prop extends SX G pg Df T Wx ck k tw X where
  own : PassesOwn (model X.prog X.w) X.A X.env X.xe
section
variable (G : Gx) (pg : Pg) (Df : Defs) (T : Tb)
def SndS (s : S) : Prop := ∀ {ck : Ck} {st : Stmt} {Wx : WX} {k : Nat} {tw : List F} {X : Cx}, chkS T ck s st = true → SXs G pg Df T Wx ck k tw X → PS X st (tS G Wx fun ρ => ex pg tw none s ρ)
def SndSs (s : Ss) : Prop := ∀ {ck : Ck} {sts : List Stmt} {Wx : WX} {k : Nat} {tw : List F} {X : Cx}, chkSs T ck s sts = true → SXs G pg Df T Wx ck k tw X → PSs X sts (tS G Wx fun ρ => exs pg tw none s ρ)
end
section
variable {G : Gx} {pg : Pg} {Df : Defs} {T : Tb}
theorem snd_expr {e : E} : SndS G pg Df T (.expr e) := fun {ck st Wx k tw X} h s => by
  rw [chkS] at h
  split at h
  · rename_i a e1
    obtain ⟨p, rfl⟩ := asExpr_ok e1
    simp only [Bool.and_eq_true] at h
    simp only [ex]
    exact ps_exprW (sndE e h.2 s.toSX).1 (notComp_ok h.1)
  · cases h
theorem snd_ret {e : E} : SndS G pg Df T (.ret e) := fun {ck st Wx k tw X} h s => by
  rw [chkS] at h
  split at h
  · rename_i a e1
    obtain ⟨p, rfl⟩ := asRet_ok e1
    simp only [ex]
    exact ps_retW (sndE e h s.toSX).1
  · cases h
theorem snd_ret0 : SndS G pg Df T .ret0 := fun {ck st Wx k tw X} h s => by
  rw [chkS] at h
  split at h
  · rename_i e1
    obtain ⟨p, rfl⟩ := asRet_ok e1
    simp only [ex]
    exact ps_ret0W
  · cases h
theorem snd_iff {c : E} {a b : Ss} (ha : SndSs G pg Df T a) (hb : SndSs G pg Df T b) : SndS G pg Df T (.iff c a b) := fun {ck st Wx k tw X} h s => by
  rw [chkS] at h
  split at h
  · rename_i c' bs cs e1
    obtain ⟨p, rfl⟩ := asIf_ok e1
    simp only [Bool.and_eq_true] at h
    simp only [ex]
    exact ps_iffW ((sndE c h.1.2 s.toSX).2 h.1.1) (ha h.2.1 s) (hb h.2.2 s)
  · cases h
theorem snd_whil {n : Nat} {c : E} {a : Ss} (ha : SndSs G pg Df T a) : SndS G pg Df T (.whil n c a) := fun {ck st Wx k tw X} h s => by
  rw [chkS] at h
  split at h
  · rename_i c' bs e1
    obtain ⟨p, rfl⟩ := asWhile_ok e1
    simp only [Bool.and_eq_true] at h
    simp only [ex]
    exact ps_whilW n s.own ((sndE c h.1.2 s.toSX).2 h.1.1) (ha h.2 s)
  · cases h
theorem snd_forr {t : Tg} {it : It} {a : Ss} (ha : SndSs G pg Df T a) : SndS G pg Df T (.forr t it a) := fun {ck st Wx k tw X} h s => by
  rw [chkS] at h
  split at h
  · rename_i tg iter bs e1
    obtain ⟨p, rfl⟩ := asFor_ok e1
    simp only [Bool.and_eq_true] at h
    simp only [ex]
    exact ps_forW s.own s.calm (sndI it h.2.1 s.toSX) (sndT t h.1 s.toSX) (ha h.2.2.2 s) fun x => folded_ok h.2.2.1 x
  · cases h
theorem snd_rais {c : Nat} {e : E} : SndS G pg Df T (.rais c e) := fun {ck st Wx k tw X} h s => by
  rw [chkS] at h
  split at h
  · rename_i x a e1
    obtain ⟨p1, p2, p, rfl⟩ := asRaise_ok e1
    simp only [Bool.and_eq_true, decide_eq_true_eq, bne_iff_ne] at h
    obtain ⟨h1, h2, h3, h4, h5⟩ := h
    obtain ⟨g1, g2, g3⟩ := s.gt.ex x c h3
    simp only [ex, g3]
    exact ps_raisW s.calm s.tk (by rw [s.kin]; exact g2) (s.gl h1) g1 (sndE e h5 s.toSX).1 h4 (beq_eq_false_iff_ne.mpr h2)
  · cases h
theorem snd_del {o i : E} : SndS G pg Df T (.del o i) := fun {ck st Wx k tw X} h s => by
  rw [chkS] at h
  split at h
  · rename_i a b e1
    obtain ⟨p1, p, rfl⟩ := asDel_ok e1
    simp only [Bool.and_eq_true] at h
    simp only [ex]
    exact ps_delW (sndE o h.1 s.toSX).1 (sndE i h.2 s.toSX).1
  · cases h
theorem snd_brk : SndS G pg Df T .brk := fun {ck st Wx k tw X} h s => by
  rw [chkS] at h
  obtain ⟨p, rfl⟩ := isBrk_ok h
  simp only [ex]
  exact ps_brkW
theorem snd_cnt : SndS G pg Df T .cnt := fun {ck st Wx k tw X} h s => by
  rw [chkS] at h
  obtain ⟨p, rfl⟩ := isCnt_ok h
  simp only [ex]
  exact ps_cntW
theorem snd_pass : SndS G pg Df T .pass := fun {ck st Wx k tw X} h s => by
  rw [chkS] at h
  rcases isPass_ok h with ⟨p, rfl⟩ | ⟨x, j, p1, p2, rfl⟩
  · simp only [ex]
    exact ps_passW
  · simp only [ex]
    exact ps_docW
theorem snd_lkdS {i : Nat} {f : Option Nat} {a : S} (ha : SndS G pg Df T a) : SndS G pg Df T (.lkd i f a) := fun {ck st Wx k tw X} h s => by
  simp only [chkS] at h
  simp only [ex]
  exact ps_lkdW i f (ha h s)
theorem snd_no' {s0 : S} (h : ∀ ck st, chkS T ck s0 st = false) : SndS G pg Df T s0 := fun {ck st Wx k tw X} hc s => by
  rw [h] at hc
  cases hc
/-- o.f = e -/
theorem ps_fldW {X : Cx} {Wx : WX} {o v : PySem.Expr} {ro rv : Env → M W} {f : Nat} {p1 pos : Pos} (hK : X.K = G.K) (T : Txt G.K G pg) (ho : PE X o (tE G Wx ro)) (hv : PE X v (tE G Wx rv)) (hs : swapsWith v (some (.Attribute o (G.fnm f) p1)) pos.line X.env = pure false) :
    PS X (.Assign [.Attribute o (G.fnm f) p1] v pos) (tS G Wx fun ρ => toO ρ (rv ρ) fun x => toO ρ (M.calm (M.bind (ro ρ) fun u => M.bind (M.op (stF pg u f x)) fun _ => M.ret ρ)) fun ρ' s => some (.nx ρ', s)) := by
  refine PS.imp (ps_fld ho hv hs) fun Z σ H ⟨R, s, ι, ρ, S, D, P⟩ => ?_
  refine ⟨R, s, ι, ρ, S, D, (P.toO D).mono fun x s1 ι1 H1 T1 P1 v1 d1 => ?_⟩
  refine ⟨R, s1, ι1, ρ, T1.sim, D.step T1, (Post.calmBind (Wx' := Wx) (σ' := σ) (P1.toO (D.step T1))).mono fun u s2 ι2 H2 T2 P2 v2 d2 => ?_⟩
  obtain ⟨z, s3, e, K⟩ := (Post.calmBind (Wx' := Wx) (σ' := σ) P2).op
  cases u with
  | ref n =>
    simp only [stF] at e
    cases q : s2.get n with
    | none => rw [q] at e; cases e
    | some so =>
      rw [q] at e
      cases so with
      | ins c fs =>
        simp only at e
        split at e
        · rename_i hc
          cases e
          simp only [Den] at d2
          obtain ⟨a, ha, rfl⟩ := d2
          obtain ⟨b, h1, _, dx, fvs, ea, df⟩ := T2.sim.obj n _ q
          rw [ha] at h1
          cases h1
          obtain ⟨c1, c2⟩ := T.nat c f hc.1
          refine ⟨a, _, dx, fvs, rfl, ea, by rw [hK]; exact c1, by rw [hK]; exact c2, by rw [df.length]; exact Nat.lt_trans hc.2 (by decide), ?_⟩
          have T3 := Step.set T2.sim q ha ea (by trivial) (so := .ins c (putF f x fs)) (o := .ins (G.cad c) dx (L2.putF (G.fnm f) v1 fvs)) fun F' hF => ⟨dx, _, upd_same, putF_den T.inj f ((T2.den d1).mono hF fun _ _ h => h) (df.mono hF fun _ _ h => h)⟩
          exact PostO.nx T3.sim (((D.step T1).step T2).step T3) ((K _ _ T3).calmRet T3.sim)
        · cases e
      | _ => cases e
  | _ => cases e
/-- x = [..], where x's slot is the one swapped -/
theorem snd_setLc {i : Nat} {m : Bool} {elt : E} {t2 : Tg} {it : It} {ts : Es} {ck : Ck} {y : Str} {py p spos : Pos} {elt' tg2 iter : PySem.Expr} {ifs : List PySem.Expr} {scope : Scope} {Wx : WX} {k : Nat} {tw : List F} {X : Cx}
    (s : SXs G pg Df T Wx ck k tw X) (hw : swB ck.sc (.ListComp elt' [⟨tg2, iter, ifs, 0⟩] scope p) (.Name y py) = true) (h1 : ck.N[i]? = some y) (h2 : ck.sc.names.lookup y = some .local) (h : chkE T (.comp m elt t2 it ts) ck (.ListComp elt' [⟨tg2, iter, ifs, 0⟩] scope p) = true) :
    PS X (.Assign [.Name y py] (.ListComp elt' [⟨tg2, iter, ifs, 0⟩] scope p) spos) (tS G Wx fun ρ => ex pg tw none (.asg (.var i) (.comp m elt t2 it ts)) ρ) := by
  simp only [chkE, Bool.and_eq_true] at h
  obtain ⟨g1, g2, g3, g4, g5, g6⟩ := h
  have ok : BlkOk X.N X.env.scope scope ((tgSlots t2).map fun i => ((ck.N[i]?).getD "", i)) := by
    rw [s.nm, s.sc]
    exact blkOk_by g1
  have s0 := s.toSX
  have q := ps_setLcW (m := m) (pos := p) (py := py) (spos := spos) (i := i) (Wx := Wx) (ri := fun ρ => evi pg tw none it ρ) (ga := fun w ρ => asgT pg tw none t2 w ρ) (rt := fun ρ => tst pg tw none ts ρ) (re := fun ρ => ev pg tw none elt ρ) s.calm s.nd (by rw [s.nm]; exact h1) (by rw [s.sc]; exact h2)
    (by rw [swB_ok, s.sc, hw]) (sndI it g3 s0) ok (own_slots _)
    (fun sh H C cl fp => sndT t2 g4 (s0.blk sh H scope C cl fp)) (fun sh H C cl fp => sndF ts g5 (s0.blk sh H scope C cl fp)) (fun sh H C cl fp => (sndE elt g6 (s0.blk sh H scope C cl fp)).1) fun x => folded_ok g2 x
  simp only [ex, ev, asgT]
  exact q
theorem sole (tg v : PySem.Expr) (line : Nat) (env : PySem.Env) : swapsWithSole [tg] v line env = swapsWith v (some tg) line env := rfl
theorem snd_asgN {t : Tg} {e : E} {ck : Ck} {tg v : PySem.Expr} {spos : Pos} {Wx : WX} {k : Nat} {tw : List F} {X : Cx} (s : SXs G pg Df T Wx ck k tw X) (hp : plainX tg = true) (hs : swapsWith v (some tg) spos.line X.env = pure false) (hw : swAll ck.sc tg v = some none) (he : chkE T e ck v = true) (ht : chkT T t ck tg = true) :
    PS X (.Assign [tg] v spos) (tS G Wx fun ρ => ex pg tw none (.asg t e) ρ) := by
  simp only [ex]
  exact ps_asgW (sndE e he s.toSX).1 (sndT t ht s.toSX) hs (swAll_ok (by rw [s.sc]; exact hw)) hp
theorem snd_par {t : Tg} {es : Es} {ck : Ck} {tg : PySem.Expr} {as : List PySem.Expr} {k2 : Nat} {p2 spos : Pos} {names : List Str} {Wx : WX} {k : Nat} {tw : List F} {X : Cx} (s : SXs G pg Df T Wx ck k tw X) (hw : swAll ck.sc tg (.Tuple as k2 p2) = some (some names)) (h : parOk ck t tg names = true) (he : chkEs T es ck as = true) :
    PS X (.Assign [tg] (.Tuple as k2 p2) spos) (tS G Wx fun ρ => ex pg tw none (.asg t (.tup es)) ρ) := by
  have ws := swAll_ok (env := X.env) (by rw [s.sc]; exact hw)
  have ha := sndEs es he s.toSX
  unfold parOk at h
  split at h
  · simp only [decide_eq_true_eq] at h
    obtain ⟨h1, h2, h3, rfl, rfl, h6, h7⟩ := h
    simp only [swAll] at hw
    have hl : as.length = 2 := by
      unfold swSt at hw
      split at hw
      · cases hw
      · rename_i c
        simp at c
        exact c.1
    match as, hl with
    | [a, b], _ =>
      simp only [ex, ev]
      exact ps_parW2 s.calm s.nd (by rw [s.nm]; exact h1) (by rw [s.nm]; exact h2) h3 (by rw [s.sc]; exact h6) (by rw [s.sc]; exact h7) ha ws
  · simp only [decide_eq_true_eq] at h
    obtain ⟨h1, h2, h3, h4, h5, h6, rfl, rfl, rfl, h7, h8, h9⟩ := h
    simp only [swAll] at hw
    have hl : as.length = 3 := by
      unfold swSt at hw
      split at hw
      · cases hw
      · rename_i c
        simp at c
        exact c.1
    match as, hl with
    | [a, b, d], _ =>
      simp only [ex, ev]
      exact ps_parW3 s.calm s.nd (by rw [s.nm]; exact h1) (by rw [s.nm]; exact h2) (by rw [s.nm]; exact h3) h4 h5 h6 (by rw [s.sc]; exact h7) (by rw [s.sc]; exact h8) (by rw [s.sc]; exact h9) ha ws
  · cases h
theorem snd_asg {t : Tg} {e : E} : SndS G pg Df T (.asg t e) := fun {ck st Wx k tw X} h s => by
  rw [chkS] at h
  split at h
  rotate_left
  · cases h
  · rename_i tg v e1
    obtain ⟨p, rfl⟩ := asAsg_ok e1
    unfold chkA at h
    split at h
    · rename_i hw
      unfold setLcB at h
      split at h
      · rename_i gs scope q
        simp only [Bool.and_eq_true, decide_eq_true_eq] at h
        match gs, h, hw with
        | [⟨tg2, iter, ifs, 0⟩], h, hw => exact snd_setLc s hw h.1.1 h.1.2 h.2
      · cases h
    · rename_i hw
      have hs : swapsWith v (some tg) p.line X.env = pure false := by
        rw [swB_ok, s.sc]
        simp only [Bool.not_eq_true] at hw
        rw [hw]
      split at h
      · unfold fldB at h
        split at h
        · simp only [Bool.and_eq_true, decide_eq_true_eq] at h
          obtain ⟨h1, h2, h3⟩ := h
          have e := s.gt.fnm _ _ h1
          subst e
          simp only [ex, asgT]
          exact ps_fldW s.kin s.gt.txt (sndE _ h2 s.toSX).1 (sndE _ h3 s.toSX).1 hs
        · cases h
      simp only [Bool.and_eq_true] at h
      obtain ⟨h1, h3⟩ := h
      split at h3
      · rename_i hw
        simp only [Bool.and_eq_true] at h3
        exact snd_asgN s h1 hs hw h3.1 h3.2
      · rename_i names hw
        simp only [Bool.and_eq_true] at h3
        obtain ⟨h3, h4⟩ := h3
        unfold parE at h4
        split at h4
        · exact snd_par s hw h3 h4
        · cases h4
      · cases h3
theorem snd_snil : SndSs G pg Df T .nil := fun {ck sts Wx k tw X} h s => by
  cases sts with
  | nil => simp only [exs]; exact pss_nilW
  | cons a r => simp [chkSs] at h
theorem snd_scons {a : S} {r : Ss} (ha : SndS G pg Df T a) (hr : SndSs G pg Df T r) : SndSs G pg Df T (.cons a r) := fun {ck sts Wx k tw X} h s => by
  cases sts with
  | nil => simp [chkSs] at h
  | cons st sts =>
    simp only [chkSs, Bool.and_eq_true] at h
    simp only [exs]
    exact pss_consW (ha h.1 s) (hr h.2 s)
mutual
theorem sndS : ∀ s : S, SndS G pg Df T s
  | .expr _ => snd_expr
  | .asg _ _ => snd_asg
  | .aug _ _ _ => snd_no' fun ck st => by simp [chkS]
  | .augF _ _ _ _ => snd_no' fun ck st => by simp [chkS]
  | .augS _ _ _ _ => snd_no' fun ck st => by simp [chkS]
  | .ret _ => snd_ret
  | .ret0 => snd_ret0
  | .iff _ a b => snd_iff (sndSs a) (sndSs b)
  | .whil _ _ a => snd_whil (sndSs a)
  | .forr _ _ a => snd_forr (sndSs a)
  | .tryy _ _ => snd_no' fun ck st => by simp [chkS]
  | .rais _ _ => snd_rais
  | .del _ _ => snd_del
  | .brk => snd_brk
  | .cnt => snd_cnt
  | .pass => snd_pass
  | .lkd _ _ a => snd_lkdS (sndS a)
theorem sndSs : ∀ s : Ss, SndSs G pg Df T s
  | .nil => snd_snil
  | .cons a r => snd_scons (sndS a) (sndSs r)
end
end
end Mn

end

section
set_option Elab.async false
set_option linter.all false
set_option maxRecDepth 100000
set_option maxHeartbeats 2000000
/-! Mini: the defs. -/
namespace Mn
open PySem PySem.Spec PyProof.Rows L2
theorem denL_get {G : Gx} {F : Fz} {ι : List Addr} : ∀ {ws : List W} {vs : List V} {i : Nat} {w : W}, DenL G F ι ws vs → ws[i]? = some w → ∃ v, vs[i]? = some v ∧ Den G F ι w v := fun d h => d.get h
/-- the names at the entry -/
theorem EnvD.start {G : Gx} {R : List Addr} {s : Sto} {ι : List Addr} {H : Hp} {ws : List W} {vs : List V} {N : List Str} (d : DenL G (FzH G R s ι H) ι ws vs) : EnvD G R s ι H (ws.map some ++ List.replicate (N.length - ws.length) none) (L2.start N vs) := by
  have hl := d.length
  refine ⟨by unfold L2.start; simp [hl], fun i w h => ?_⟩
  by_cases hi : i < ws.length
  · rw [List.getElem?_append_left (by simpa using hi), List.getElem?_map] at h
    cases e : ws[i]? with
    | none => rw [e] at h; cases h
    | some x =>
      rw [e] at h
      cases h
      obtain ⟨v, hv, dv⟩ := d.get e
      refine ⟨v, ?_, dv⟩
      unfold L2.start
      rw [List.getElem?_append_left (by rw [List.length_map, ← hl]; exact hi), List.getElem?_map, hv]
      rfl
  · rw [List.getElem?_append_right (by simpa using hi), List.getElem?_replicate] at h
    split at h <;> cases h
/-- a def of the text -/
structure DefOk (mg : Str → Option Value) (base : Heap) (G : Gx) (pg : Pg) (Df : Defs) (T : Tb) (fid : Nat) : Prop where
  ok : ∃ (fn : Fn) (name qual : Str) (params : Arguments) (body : List Stmt) (scope : Scope) (dV kV doc pm cdv ct oc : Value) (an od : Option Addr) (osl : Array (Option Value)) (N : List Str) (lam : Bool),
    pg.fns fid = some fn ∧ Df.fdt fid = PySem.W.fnOf name qual params body scope dV kV doc pm an cdv ct ∧ G.K.lookup (Df.fad fid) = some ⟨oc, od, .func (PySem.W.fnOf name qual params body scope dV kV doc pm an cdv ct), osl⟩ ∧ PySem.W.codeIn G.K cdv qual = true ∧
    FnScope N (Df.par fid) scope ∧ fn.pars = (Df.par fid).length ∧ fn.slots = N.length ∧ chkSs T ⟨N, scope, fun _ => true, lam⟩ fn.body body = true ∧
    (lam = true → ∃ c P, cdv = .ref c ∧ LamX.TabB base mg c P ∧ (P, (qual ++ ".<locals>.") ++ "<lambda>") ∈ G.T ∧ ∀ p ∈ G.T, p.1 = P → p.2 = (qual ++ ".<locals>.") ++ "<lambda>")
/-- the clauses of the def told -/
def hsOf : List (Nat × List Nat) → Hs
  | [] => .nil
  | (c, r) :: t => .ret c (.str r) (hsOf t)
def TellFn (pg : Pg) (T : Tb) : Prop := ∃ n p, pg.fns T.tfid = some ⟨n, p, .cons (.tryy (.cons (.ret .thk) .nil) (hsOf T.tcs)) .nil, false⟩
theorem caught_told {pg : Pg} {e : Xn} {ρ : Env} {s : Sto} : ∀ cs : List (Nat × List Nat), (caught pg e ρ (hsOf cs) s = some (.ex e ρ, s)) ∨ (caught pg e ρ (hsOf cs) s = none) ∨ ∃ w, caught pg e ρ (hsOf cs) s = some (.rt w, s) ∧ toldW pg cs e s = some (.ok w, s)
  | [] => .inl rfl
  | (c, r) :: t => by
    simp only [hsOf, caught, toldW]
    cases pg.sub e.c c with
    | none => exact .inr (.inl rfl)
    | some b =>
      cases b with
      | true => exact .inr (.inr ⟨_, rfl, rfl⟩)
      | false => exact caught_told t
theorem told_run {pg : Pg} {T : Tb} (h : TellFn pg T) (tw : List F) (m : M W) (s : Sto) : run pg tw T.tfid [] (some m) s = none ∨ run pg tw T.tfid [] (some m) s = toldM pg T.tcs m s := by
  obtain ⟨n, p, hf⟩ := h
  unfold run
  rw [hf]
  simp only [Option.isSome_some, if_true, List.length_nil, exs, ex, ev, M.thunk, toO, MO.seq]
  unfold toldM
  cases m s with
  | none => exact .inl rfl
  | some q =>
    obtain ⟨q, s'⟩ := q
    cases q with
    | ok w => exact .inr rfl
    | error e =>
      simp only
      rcases caught_told (pg := pg) (e := e) (ρ := (List.map some [] ++ List.replicate (n - 0) none)) (s := s') T.tcs with h | h | ⟨w, h1, h2⟩
      · rw [h]; exact .inl rfl
      · rw [h]; exact .inl rfl
      · rw [h1, h2]; exact .inr rfl
theorem tower_told {pg : Pg} {T : Tb} (h : TellFn pg T) : ∀ (n : Nat) (m : M W) (s : Sto), atT (tower pg n) 0 T.tfid [] (some m) s = none ∨ atT (tower pg n) 0 T.tfid [] (some m) s = toldM pg T.tcs m s
  | 0, _, _ => .inl rfl
  | n + 1, m, s => told_run h _ m s
section
variable {P : Program} {w : World} {mg : Str → Option Value} {base : Heap} {G : Gx} {pg : Pg} {Df : Defs} {T : Tb}
abbrev LevT (P : Program) (w : World) (mg : Str → Option Value) (base : Heap) (G : Gx) (pg : Pg) (Df : Defs) (n : Nat) : Prop := Lev P w G.K mg base G Df (n + 4) (atT (tower pg n) 0)
/-- levels below, as the body wants them -/
theorem levX_of {X : Cx} (h1 : X.prog = P) (h2 : X.w = w) (h3 : X.K = G.K) (h4 : X.mg = mg) (h5 : X.base = base) {n : Nat} (ih : ∀ j, j ≤ n → LevT P w mg base G pg Df j) : LevX X G Df (n + 4) (tower pg n) := by
  subst h1 h2 h4 h5
  refine ⟨⟨n + 4, Nat.le_refl _, by rw [h3]; exact ih n (Nat.le_refl _)⟩, ?_⟩
  cases n with
  | zero => exact ⟨0, by omega, Lev.none⟩
  | succ m => exact ⟨m + 4, by omega, by rw [h3]; exact ih m (Nat.le_succ _)⟩
theorem levX_low {X : Cx} {j : Nat} (hj : 1 ≤ j) : LevX X G Df j [] := ⟨⟨0, Nat.zero_le _, Lev.none⟩, ⟨0, hj, Lev.none⟩⟩
/-- all levels -/
theorem lev_all (gt : GT mg G pg Df T) (hD : ∀ fid, Df.ok fid = true → DefOk mg base G pg Df T fid) (ht : TellFn pg T) : ∀ (n : Nat) (j : Nat), j ≤ n → LevT P w mg base G pg Df j
  | 0, j, hj => by
    obtain rfl : j = 0 := Nat.le_zero.mp hj
    exact Lev.none
  | n + 1, j, hj => by
    have ih := lev_all gt hD ht n
    by_cases hjn : j ≤ n
    · exact ih j hjn
    obtain rfl : j = n + 1 := by omega
    intro fid hok
    obtain ⟨fn, name, qual, params, body, scope, dV, kV, doc, pm, cdv, ct, oc, an, od, osl, N, lam, e1, e2, e3, e4, e5, e6, e7, e8, e9⟩ := (hD fid hok).ok
    rw [e2]
    refine fn_of e3 e4 e5 (fun vs H Q E h => h.1) fun A outer s0 H vs Q E hr hsp => ?_
    have sx : SXs G pg Df T (fun cls d _ H' => E cls d H') ⟨N, scope, fun _ => true, lam⟩ (n + 4) (tower pg n) (cxOf (CX P w) P w G.K mg base N qual scope (Df.fad fid) cdv A outer s0 H E) := by
      refine ⟨⟨rfl, gt, rfl, e5.nd, rfl, rfl, rfl, hr, levX_of rfl rfl rfl rfl rfl ih, takes_of rfl rfl rfl rfl, fun hl => ?_⟩, passes_of rfl⟩
      obtain ⟨c, Pt, q1, q2, q3, q4⟩ := e9 hl
      refine ⟨⟨c, Pt, q2, q1, q3, q4⟩, ?_, fun m s => tower_told ht n m s⟩
      match n, ih with
      | 0, _ => exact ⟨2, by omega, levX_low (by omega)⟩
      | 1, _ => exact ⟨2, by omega, levX_low (by omega)⟩
      | m + 2, ih => exact ⟨m + 4, by omega, levX_of rfl rfl rfl rfl rfl fun j hj => ih j (by omega)⟩
    refine ⟨_, sndSs fn.body e8 sx, ?_⟩
    obtain ⟨hl, R, s, ι, ws, S, d, P0⟩ := hsp
    refine ⟨R, s, ι, ws.map some ++ List.replicate (N.length - ws.length) none, S, EnvD.start d, ?_⟩
    have P0 : Post G (fun cls d _ H' => E cls d H') [] R s ι H (run pg (tower pg n) fid ws none s) fun w s' ι' H' => ∀ v, Den G (FzH G R s' ι' H') ι' w v → Q v H' := P0
    unfold run at P0
    rw [e1] at P0
    have hn : ws.length = fn.pars := by rw [d.length, hl, e6]
    simp only [Option.isSome_none, Bool.false_eq_true, if_false, if_pos hn, e7] at P0
    show PostO G (fun cls d _ H' => E cls d H') R s ι H { nx := fun _ H' => Q .non H', rt := Q } (exs pg (tower pg n) none fn.body (ws.map some ++ List.replicate (N.length - ws.length) none) s)
    generalize exs pg (tower pg n) none fn.body (ws.map some ++ List.replicate (N.length - ws.length) none) s = r at P0 ⊢
    match r, P0 with
    | none, P0 => exact P0.elim
    | some (.nx ρ', s'), P0 => exact fun ι' H' σ' St _ => P0 ι' H' St _ den_non
    | some (.bk ρ', s'), P0 => exact P0.elim
    | some (.ct ρ', s'), P0 => exact P0.elim
    | some (.ex e ρ', s'), P0 => exact fun ι' H' cls d σ' St x _ => P0 ι' H' cls d St x
    | some (.rt u, s'), P0 =>
      intro ι' H' v St dv
      simp only at P0
      cases hf : fn.frz with
      | false =>
        rw [hf] at P0
        exact P0 ι' H' St v dv
      | true =>
        rw [hf] at P0
        have P1 : Post G (fun cls d _ H' => E cls d H') [] R s ι H (M.op (frzW u) s') fun w s' ι' H' => ∀ v, Den G (FzH G R s' ι' H') ι' w v → Q v H' := P0
        unfold M.op at P1
        cases q : frzW u s' with
        | none => rw [q] at P1; exact P1.elim
        | some z =>
          obtain ⟨u', s2⟩ := z
          rw [q] at P1
          obtain ⟨St2, d2⟩ := freeze_ok St.sim dv q
          exact P1 ι' H' (St.trans St2) v d2
end
end Mn

end

section
set_option Elab.async false
set_option linter.all false
set_option maxRecDepth 100000
set_option maxHeartbeats 2000000
/-! Mini: a package, its facts. -/
namespace Mn
open PySem PySem.Spec PyProof.Rows L2
/-! ### plain parameters -/
theorem zip_look : ∀ {ns : List Str} {us : List Value}, us.length = ns.length → ∀ n ∈ ns, ((ns.zip us).lookup n).isNone = false
  | [], us, h, n, hn => by simp at hn
  | m :: ns, [], h, n, hn => by simp at h
  | m :: ns, u :: us, h, n, hn => by
    simp only [List.zip_cons_cons, List.lookup_cons]
    cases q : (n == m) with
    | true => rfl
    | false =>
      rcases List.mem_cons.mp hn with e | e
      · rw [e] at q; simp at q
      · exact zip_look (by simpa using h) n e
theorem fm_congr {α β : Type} {f g : α → Option β} : ∀ {l : List α}, (∀ a ∈ l, f a = g a) → l.filterMap f = l.filterMap g
  | [], _ => rfl
  | a :: l, h => by
    simp only [List.filterMap_cons, h a List.mem_cons_self, fm_congr fun b hb => h b (List.mem_cons_of_mem _ hb)]
theorem zip_fm : ∀ {ns : List Str} {us : List Value}, ns.Nodup → us.length = ns.length → (ns.filterMap fun n => ((ns.zip us).lookup n).map (n, ·)) = ns.zip us
  | [], us, _, h => by cases us <;> rfl
  | m :: ns, [], _, h => by simp at h
  | m :: ns, u :: us, nd, h => by
    obtain ⟨n1, n2⟩ := List.nodup_cons.mp nd
    have ih := zip_fm (us := us) n2 (by simpa using h)
    rw [List.zip_cons_cons, List.filterMap_cons, List.lookup_cons, beq_self_eq_true]
    show (m, u) :: _ = _
    congr 1
    rw [← ih]
    apply fm_congr
    intro n hn
    have : (n == m) = false := by
      cases q : (n == m) with
      | false => rfl
      | true => exact absurd (by rw [← eq_of_beq q]; exact hn) n1
    rw [List.lookup_cons, this, ih]
theorem bind_plain {x q : Str} {as : List Arg} {body : List Stmt} {sc : Scope} {kV doc pm cdv ct : Value} {an : Option Addr} {us : List Value} (nd : (as.map (·.arg)).Nodup) (h : us.length = (as.map (·.arg)).length) :
    bindArgs (PySem.W.fnOf x q ⟨[], as, none, [], [], none, []⟩ body sc .none kV doc pm an cdv ct) ⟨us, []⟩ = pure ((as.map (·.arg)).zip us) := by
  have e1 : ((as.map (·.arg)).filter fun n => (((as.map (·.arg)).zip us).lookup n).isNone) = [] := by
    rw [List.filter_eq_nil_iff]
    intro n hn
    rw [zip_look h n hn]
    simp
  have e2 := zip_fm nd h
  have e3 : (decide (us.length > (as.map (·.arg)).length)) = false := by simp [h]
  have e4 : seqItems? Value.none = pure none := rfl
  generalize hns : as.map (·.arg) = ns at *
  unfold bindArgs
  simp only [PySem.W.fnOf, hns, List.map_nil, List.nil_append, List.append_nil, List.forIn_nil, pure_bind, e4, Option.getD_none, List.drop_nil, List.length_nil, Nat.sub_zero, List.take_length, e1, List.isEmpty_nil, Bool.not_true, if_false, Option.isNone_none, Bool.and_true, e3, Bool.false_eq_true, List.zip_nil_right]
  rw [e2]
/-! ### a package -/
/-- a def, as the text has it -/
structure DD where
  at_ : Str × Option Str
  name : Str
  qual : Str
  args : List Arg
  body : List Stmt
  scope : Scope
  N : List Str
  fn : Fn
  lam : Bool
  ok : Bool
def DD.ps (d : DD) : List Str := d.args.map (·.arg)
def DD.defD (d : DD) : He.DefD := ⟨d.at_, d.name, d.qual, ⟨[], d.args, none, [], [], none, []⟩, d.body, d.scope, [], []⟩
/-- a class -/
structure CD where
  name : Str
  exc : Bool
  ini : Option Nat
  frz : Bool
  mths : List (Nat × Nat)
  flds : List Nat
structure Pk where
  defs : List DD
  cls : List CD
  sub : List ((Nat × Nat) × Bool)
  T : Tb
def Pk.cn (p : Pk) (c : Nat) : Str := match p.cls[c]? with
  | some d => d.name
  | none => ""
def Pk.fnmN (p : Pk) (f : Nat) : Str := match p.T.fnm[f]? with
  | some x => x
  | none => ⟨Array.replicate (100 + f) 63⟩
def Pk.pg (p : Pk) : Pg where
  con := fun _ => .non
  ini := fun c => match p.cls[c]? with
    | some ⟨_, _, some f, _, _, _⟩ => f
    | _ => p.defs.length
  frz := fun c => match p.cls[c]? with
    | some d => d.frz
    | none => false
  mth := fun c m => match p.cls[c]? with
    | some d => d.mths.lookup m
    | none => none
  fns := fun f => match p.defs[f]? with
    | some d => some d.fn
    | none => none
  sub := fun c d => p.sub.lookup (c, d)
  xfl := fun _ => none
  nat := fun c f => match p.cls[c]? with
    | some d => d.flds.contains f
    | none => false
def noFd : FuncData := PySem.W.fnOf "" "" ⟨[], [], none, [], [], none, []⟩ [] ⟨.function, [], false, false, []⟩ .none .none .none .none none .none .none
def Pk.Df (p : Pk) (K : PySem.W.Frag) : Defs where
  ok := fun f => match p.defs[f]? with
    | some d => d.ok
    | none => false
  fad := fun f => match p.defs[f]? with
    | some d => He.fAd K d.at_
    | none => 0
  fdt := fun f => match p.defs[f]? with
    | some d => (match K.lookup (He.fAd K d.at_) with
      | some ⟨_, _, .func fd, _⟩ => fd
      | _ => noFd)
    | none => noFd
  par := fun f => match p.defs[f]? with
    | some d => d.ps
    | none => []
def Pk.lams (p : Pk) : List DD := p.defs.filter (·.lam)
def Pk.tf (p : Pk) : List He.Defn := p.lams.map (·.at_)
def Pk.tabs (p : Pk) (K : PySem.W.Frag) : List (Addr × Str) := p.lams.map fun d => ((He.cT K d.at_).2, (d.qual ++ ".<locals>.") ++ "<lambda>")
def Pk.G (p : Pk) (K : PySem.W.Frag) : Gx where
  K := K
  cad := fun c => He.ga K (p.cn c)
  fnm := p.fnmN
  T := p.tabs K
  con := []
def CD.facts (T : Tb) (d : CD) : List He.Fa := if d.exc then [.glo d.name] ++ (if d.ini.isSome then [] else [.exc d.name]) else [.glo d.name, .cls d.name] ++ (if d.ini.isSome then [.mkr d.name] else []) ++ (d.mths.map fun q => .meth d.name ((T.fnm[q.1]?).getD "")) ++ (d.flds.map fun f => .noat d.name ((T.fnm[f]?).getD ""))
def Pk.fa (p : Pk) : List He.Fa := (p.T.funs.map fun q => .glo q.1) ++ (p.cls.flatMap (CD.facts p.T)) ++ (biNames.map .free) ++ (p.sub.map fun q => .exm (p.cn q.1.1) (p.cn q.1.2) q.2) ++ [.glo p.T.tname]
def Pk.fn (p : Pk) : List He.DefD := p.defs.map DD.defD
def isList (o : Obj) : Bool := match o.cls with
  | .type c => decide (c = "list")
  | _ => false
def Pk.ex (p : Pk) (K : PySem.W.Frag) : Bool := (K.all fun q => !isList q.2) && decide ((p.tabs K).map (·.1)).Nodup
/-! ### what is looked at, with no heap in sight -/
def defAt (p : Pk) (f : Nat) (at_ : Str × Option Str) (n : Nat) : Bool := match p.defs[f]? with
  | some d => d.ok && (decide (d.at_ = at_) && decide (d.ps.length = n))
  | none => false
def DD.good (T : Tb) (d : DD) : Bool := decide d.ps.Nodup && (!d.ok || (C8.scC d.N d.ps d.scope && (decide (d.fn.pars = d.ps.length) && (decide (d.fn.slots = d.N.length) && chkSs T ⟨d.N, d.scope, fun _ => true, d.lam⟩ d.fn.body d.body))))
def thsB (p : Pk) (sg : Scope) : List ExceptHandler → List (Nat × List Nat) → Bool
  | [], [] => true
  | .ExceptHandler (some (.Name e _)) none [.Return (some (.Constant (.str ret) _ _)) _] _ :: hs, (c, r) :: cs => glB sg e && (e != "__debug__" && (decide ((p.cls[c]?).map (·.name) = some e) && (decide (ret = ⟨r.toArray⟩) && thsB p sg hs cs)))
  | _, _ => false
def hsEq : Hs → List (Nat × List Nat) → Bool
  | .nil, [] => true
  | .ret c (.str r) h, (d, t) :: cs => decide (c = d ∧ r = t) && hsEq h cs
  | _, _ => false
def tellB (p : Pk) : Bool := match p.defs[p.T.tfid]? with
  | some ⟨at_, name, qual, args, [.Try [.Return (some (.Call (.Name a _) [] [] _)) _] (h₀ :: hs) [] [] _], sg, N, ⟨_, _, .cons (.tryy (.cons (.ret .thk) .nil) h) .nil, false⟩, false, false⟩ =>
    decide (at_ = (p.T.tname, none) ∧ name = p.T.tname ∧ qual = p.T.tname ∧ args.map (·.arg) = [a] ∧ p.T.tname ≠ "__debug__" ∧ a ≠ "__debug__" ∧ a ≠ "__classdict__") && (C8.scC N [a] sg && (visB sg a && (thsB p sg (h₀ :: hs) p.T.tcs && hsEq h p.T.tcs)))
  | _ => false
def Pk.good (p : Pk) : Bool :=
  (p.T.funs.all fun q => defAt p q.2.1 (q.1, none) q.2.2) &&
  ((p.T.clss.all fun q => match p.cls[q.2.1]? with
    | some ⟨x, false, some f, _, _, _⟩ => decide (x = q.1) && defAt p f (q.1, some "__init__") q.2.2
    | _ => false) &&
  ((p.T.excs.all fun q => match p.cls[q.2]? with
    | some ⟨x, true, none, _, _, _⟩ => decide (x = q.1)
    | _ => false) &&
  ((p.T.mths.all fun q => decide (p.T.fnm[q.2.1]? = some q.1) && (p.cls.all fun d => d.mths.all fun z => decide (z.1 ≠ q.2.1) || (!d.exc && defAt p z.2 (d.name, some q.1) (q.2.2 + 1)))) &&
  (decide p.T.fnm.Nodup && ((p.T.fnm.all fun x => decide (x.cps.size < 100)) &&
  ((p.cls.all fun d => (!d.exc || d.flds.isEmpty) && (d.flds.all fun f => decide (f < p.T.fnm.length))) &&
  ((p.defs.all fun d => d.good p.T) && tellB p)))))))
end Mn

end

section
set_option Elab.async false
set_option linter.all false
set_option maxRecDepth 100000
set_option maxHeartbeats 2000000
/-! Mini: a package's facts at a heap. -/
namespace Mn
open PySem PySem.Spec PyProof.Rows L2
theorem mem_lk {α β : Type} [BEq α] [LawfulBEq α] {a : α} {b : β} : ∀ {l : List (α × β)}, l.lookup a = some b → (a, b) ∈ l
  | [], h => by cases h
  | (x, y) :: r, h => by
    rw [List.lookup_cons] at h
    cases q : (a == x) with
    | true =>
      rw [q] at h
      cases h
      rw [eq_of_beq q]
      exact List.mem_cons_self
    | false =>
      rw [q] at h
      exact List.mem_cons_of_mem _ (mem_lk h)
section
variable {p : Pk}
structure Good (p : Pk) : Prop where
  funs : ∀ q ∈ p.T.funs, defAt p q.2.1 (q.1, none) q.2.2 = true
  clss : ∀ q ∈ p.T.clss, (match p.cls[q.2.1]? with
    | some ⟨x, false, some f, _, _, _⟩ => decide (x = q.1) && defAt p f (q.1, some "__init__") q.2.2
    | _ => false) = true
  excs : ∀ q ∈ p.T.excs, (match p.cls[q.2]? with
    | some ⟨x, true, none, _, _, _⟩ => decide (x = q.1)
    | _ => false) = true
  mths : ∀ q ∈ p.T.mths, p.T.fnm[q.2.1]? = some q.1 ∧ ∀ d ∈ p.cls, ∀ z ∈ d.mths, z.1 = q.2.1 → d.exc = false ∧ defAt p z.2 (d.name, some q.1) (q.2.2 + 1) = true
  nd : p.T.fnm.Nodup
  sh : ∀ x ∈ p.T.fnm, x.cps.size < 100
  cls : ∀ d ∈ p.cls, (d.exc = true → d.flds = []) ∧ ∀ f ∈ d.flds, f < p.T.fnm.length
  defs : ∀ d ∈ p.defs, d.good p.T = true
  tell : tellB p = true
theorem good_of (h : p.good = true) : Good p := by
  unfold Pk.good at h
  simp only [Bool.and_eq_true, List.all_eq_true, decide_eq_true_eq, Bool.or_eq_true, Bool.not_eq_true', List.isEmpty_iff] at h
  obtain ⟨h1, h2, h3, h4, h5, h6, h7, h8, h9⟩ := h
  refine ⟨h1, h2, fun q hq => h3 q hq, fun q hq => ⟨(h4 q hq).1, fun d hd z hz e => ?_⟩, h5, h6, fun d hd => ⟨fun e => ?_, (h7 d hd).2⟩, h8, h9⟩
  · rcases (h4 q hq).2 d hd z hz with n | n
    · exact absurd e n
    · exact n
  · rcases (h7 d hd).1 with n | n
    · rw [e] at n; cases n
    · exact n
theorem defAt_ok {f : Nat} {at_ : Str × Option Str} {n : Nat} (h : defAt p f at_ n = true) : ∃ d, p.defs[f]? = some d ∧ d.ok = true ∧ d.at_ = at_ ∧ d.ps.length = n := by
  unfold defAt at h
  split at h
  · rename_i d e
    simp only [Bool.and_eq_true, decide_eq_true_eq] at h
    exact ⟨d, e, h.1, h.2.1, h.2.2⟩
  · cases h
theorem fnmN_inj (g : Good p) : ∀ f f', p.fnmN f = p.fnmN f' → f = f' := by
  intro f f' h
  unfold Pk.fnmN at h
  have long : ∀ (k : Nat), ¬ (⟨Array.replicate (100 + k) 63⟩ : Str) ∈ p.T.fnm := fun k m => by
    have := g.sh _ m
    simp at this
    omega
  cases e : p.T.fnm[f]? with
  | some x =>
    cases e' : p.T.fnm[f']? with
    | some x' =>
      rw [e, e'] at h
      simp only at h
      obtain ⟨h1, e1⟩ := List.getElem?_eq_some_iff.mp e
      obtain ⟨h2, e2⟩ := List.getElem?_eq_some_iff.mp e'
      exact (List.getElem_inj g.nd).mp (e1.trans (h.trans e2.symm))
    | none =>
      rw [e, e'] at h
      simp only at h
      exact absurd (by rw [← h]; exact List.mem_of_getElem? e) (long f')
  | none =>
    cases e' : p.T.fnm[f']? with
    | some x' =>
      rw [e, e'] at h
      simp only at h
      exact absurd (by rw [h]; exact List.mem_of_getElem? e') (long f)
    | none =>
      rw [e, e'] at h
      simp only at h
      have := congrArg (fun z : Str => z.cps.size) h
      simp at this
      omega
variable {K : PySem.W.Frag} {hp : Heap} {mg : Str → Option Value}
theorem fd_of (c : He.SaysD p.fa p.fn K) {f : Nat} {d : DD} (h : p.defs[f]? = some d) : FunD K d.name d.qual ⟨[], d.args, none, [], [], none, []⟩ d.body d.scope [] [] (He.fAd K d.at_) ((p.Df K).fdt f) ∧ (p.Df K).fad f = He.fAd K d.at_ ∧ (p.Df K).par f = d.ps := by
  obtain ⟨fd, F⟩ := c.defs (d := d.defD) (List.mem_map.mpr ⟨d, List.mem_of_getElem? h, rfl⟩)
  have F : FunD K d.name d.qual ⟨[], d.args, none, [], [], none, []⟩ d.body d.scope [] [] (He.fAd K d.at_) fd := F
  refine ⟨?_, by simp only [Pk.Df, h], by simp only [Pk.Df, h]⟩
  obtain ⟨oc, od, dV, kV, doc, pm, an, cdv, ct, osl, e1, lk, r⟩ := F.ex
  have e : (p.Df K).fdt f = fd := by simp only [Pk.Df, h, lk]
  rw [e]
  exact F
theorem binds_of (g : Good p) (c : He.SaysD p.fa p.fn K) {f : Nat} {d : DD} (h : p.defs[f]? = some d) : Binds K ((p.Df K).fdt f) d.ps [] := by
  obtain ⟨F, _⟩ := fd_of c h
  have gd := g.defs d (List.mem_of_getElem? h)
  unfold DD.good at gd
  simp only [Bool.and_eq_true, decide_eq_true_eq] at gd
  exact F.bindsN fun kV doc pm an cdv ct us hl => bind_plain gd.1 hl
/-! the facts asked -/
theorem cls_mem {c : Nat} {d : CD} (h : p.cls[c]? = some d) {f : He.Fa} (hf : f ∈ d.facts p.T) : f ∈ p.fa := by
  unfold Pk.fa
  simp only [List.mem_append, List.mem_flatMap]
  exact .inl (.inl (.inl (.inr ⟨d, List.mem_of_getElem? h, hf⟩)))
theorem cn_of {c : Nat} {d : CD} (h : p.cls[c]? = some d) : p.cn c = d.name := by simp only [Pk.cn, h]
theorem getF_fnm {f : Nat} {x : Str} (h : p.T.fnm[f]? = some x) : p.fnmN f = x := by simp only [Pk.fnmN, h]
theorem txt_of (g : Good p) (c : He.SaysD p.fa p.fn K) : Txt K (p.G K) p.pg := by
  refine ⟨fun k f h => ?_, fnmN_inj g⟩
  simp only [Pk.pg] at h
  split at h
  · rename_i d e
    have hm : f ∈ d.flds := by simpa using h
    obtain ⟨g1, g2⟩ := g.cls d (List.mem_of_getElem? e)
    have hx : d.exc = false := by
      cases q : d.exc with
      | false => rfl
      | true => rw [g1 q] at hm; cases hm
    obtain ⟨x, hx2⟩ : ∃ x, p.T.fnm[f]? = some x := ⟨_, List.getElem?_eq_getElem (g2 f hm)⟩
    have c1 := c.facts (cls_mem e (f := .cls d.name) (by unfold CD.facts; rw [hx]; simp))
    have c2 := c.facts (cls_mem e (f := .noat d.name x) (by
      unfold CD.facts
      rw [hx]
      simp only [Bool.false_eq_true, if_false, List.mem_append, List.mem_map]
      exact .inr ⟨f, hm, by rw [hx2]; rfl⟩))
    have e1 : (p.G K).cad k = He.ga K d.name := by simp only [Pk.G, cn_of e]
    have e2 : (p.G K).fnm f = x := getF_fnm hx2
    rw [e1, e2]
    exact ⟨He.cls_ok c1, He.noat_ok c2⟩
  · cases h
theorem sub_of (c : He.SaysD p.fa p.fn K) : SubT K (p.G K) p.pg := by
  refine ⟨fun a b t h => ?_⟩
  have m := mem_lk h
  exact He.exm_ok (c.facts (f := .exm (p.cn a) (p.cn b) t) (by
    unfold Pk.fa
    simp only [List.mem_append, List.mem_map]
    exact .inl (.inr ⟨_, m, rfl⟩)))
theorem glo_of (KX : K.In hp) (GN : hp.Ns mainGlobals mg) (c : He.SaysD p.fa p.fn K) {k : Nat} {d : CD} (h : p.cls[k]? = some d) : mg d.name = some (.ref ((p.G K).cad k)) := by
  have e1 : (p.G K).cad k = He.ga K d.name := by simp only [Pk.G, cn_of h]
  rw [e1]
  exact He.glo_ok KX GN (c.facts (cls_mem h (f := .glo d.name) (by unfold CD.facts; split <;> simp)))
theorem ex_of (g : Good p) (KX : K.In hp) (GN : hp.Ns mainGlobals mg) (c : He.SaysD p.fa p.fn K) (x : Str) (k : Nat) (h : p.T.excs.lookup x = some k) : mg x = some (.ref ((p.G K).cad k)) ∧ XcT K ((p.G K).cad k) ∧ p.pg.xfl k = none := by
  have m := g.excs _ (mem_lk h)
  split at m
  · rename_i y _ _ _ e
    simp only [decide_eq_true_eq] at m
    subst m
    have e1 : (p.G K).cad k = He.ga K y := by simp only [Pk.G, cn_of e]
    have q := He.exc_ok (c.facts (cls_mem e (f := .exc y) (by unfold CD.facts; simp)))
    refine ⟨glo_of KX GN c e, ?_, rfl⟩
    rw [e1]
    exact ⟨q.1, q.2.1, q.2.2.1, q.2.2.2⟩
  · cases m
theorem cl_of (g : Good p) (KX : K.In hp) (GN : hp.Ns mainGlobals mg) (c : He.SaysD p.fa p.fn K) (x : Str) (k n : Nat) (h : p.T.clss.lookup x = some (k, n)) :
    mg x = some (.ref ((p.G K).cad k)) ∧ (p.Df K).ok (p.pg.ini k) = true ∧ Mk K ((p.G K).cad k) ((p.Df K).fad (p.pg.ini k)) ∧ Binds K ((p.Df K).fdt (p.pg.ini k)) ((p.Df K).par (p.pg.ini k)) [] ∧ ((p.Df K).par (p.pg.ini k)).length = n := by
  have m := g.clss _ (mem_lk h)
  split at m
  · rename_i y f _ _ _ e
    simp only [Bool.and_eq_true, decide_eq_true_eq] at m
    obtain ⟨rfl, m⟩ := m
    obtain ⟨d, d1, d2, d3, d4⟩ := defAt_ok m
    have ei : p.pg.ini k = f := by simp only [Pk.pg, e]
    have e1 : (p.G K).cad k = He.ga K y := by simp only [Pk.G, cn_of e]
    obtain ⟨F, f1, f2⟩ := fd_of c d1
    have f1 : (p.Df K).fad f = He.ma K (He.ga K y) "__init__" := by rw [f1, d3]; rfl
    rw [ei, e1, f1, f2]
    refine ⟨?_, by simp only [Pk.Df, d1, d2], He.mkr_ok (c.facts (cls_mem e (f := .mkr y) (by unfold CD.facts; simp))), binds_of g c d1, d4⟩
    have := glo_of KX GN c e
    rw [e1] at this
    exact this
  · cases m
theorem fn_of' (g : Good p) (KX : K.In hp) (GN : hp.Ns mainGlobals mg) (c : He.SaysD p.fa p.fn K) (x : Str) (f n : Nat) (h : p.T.funs.lookup x = some (f, n)) :
    mg x = some (.ref ((p.Df K).fad f)) ∧ (p.Df K).ok f = true ∧ PySem.W.keepIn K (.ref ((p.Df K).fad f)) = true ∧ Binds K ((p.Df K).fdt f) ((p.Df K).par f) [] ∧ ((p.Df K).par f).length = n := by
  have hm := mem_lk h
  obtain ⟨d, d1, d2, d3, d4⟩ := defAt_ok (g.funs _ hm)
  obtain ⟨F, f1, f2⟩ := fd_of c d1
  have f3 : He.fAd K d.at_ = He.ga K x := by rw [d3]; rfl
  refine ⟨?_, by simp only [Pk.Df, d1, d2], by rw [f1]; exact F.kp, by rw [f2]; exact binds_of g c d1, by rw [f2]; exact d4⟩
  rw [f1, f3]
  exact He.glo_ok KX GN (c.facts (f := .glo x) (by
    unfold Pk.fa
    simp only [List.mem_append, List.mem_map]
    exact .inl (.inl (.inl (.inl ⟨_, hm, rfl⟩)))))
theorem mt_of (g : Good p) (c : He.SaysD p.fa p.fn K) (x : Str) (m n : Nat) (h : p.T.mths.lookup x = some (m, n)) : MethT K (p.G K) p.pg (p.Df K) m n := by
  obtain ⟨h1, h2⟩ := g.mths _ (mem_lk h)
  refine ⟨fun k f hk => ?_⟩
  simp only [Pk.pg] at hk
  split at hk
  · rename_i d e
    have hz := mem_lk hk
    obtain ⟨hx, hd⟩ := h2 d (List.mem_of_getElem? e) _ hz rfl
    obtain ⟨q, d1, d2, d3, d4⟩ := defAt_ok hd
    obtain ⟨F, f1, f2⟩ := fd_of c d1
    have e1 : (p.G K).cad k = He.ga K d.name := by simp only [Pk.G, cn_of e]
    have f1 : (p.Df K).fad f = He.ma K (He.ga K d.name) x := by rw [f1, d3]; rfl
    have e2 : (p.G K).fnm m = x := getF_fnm h1
    rw [e1, f1, f2, e2]
    have c1 := c.facts (cls_mem e (f := .cls d.name) (by unfold CD.facts; rw [hx]; simp))
    have c2 := c.facts (cls_mem e (f := .meth d.name x) (by
      unfold CD.facts
      rw [hx]
      simp only [Bool.false_eq_true, if_false, List.mem_append, List.mem_map]
      exact .inl (.inr ⟨_, hz, by rw [show p.T.fnm[m]? = some x from h1]; rfl⟩)))
    exact ⟨by simp only [Pk.Df, d1, d2], He.cls_ok c1, He.meth_ok c2, binds_of g c d1, d4⟩
  · cases hk
theorem ths_of (hex : ∀ k d, p.cls[k]? = some d → mg d.name = some (.ref ((p.G K).cad k))) {sg : Scope} : ∀ {hs : List ExceptHandler} {cs : List (Nat × List Nat)}, thsB p sg hs cs = true → THs mg sg hs (csV (p.G K) cs)
  | [], [], _ => .nil
  | [], _ :: _, h => by simp [thsB] at h
  | hd :: hs, [], h => by
    unfold thsB at h
    split at h
    · rename_i e1 e2; cases e1
    · rename_i e1 e2; cases e2
    · cases h
  | hd :: hs, (c, r) :: cs, h => by
    unfold thsB at h
    split at h
    · rename_i e1 e2; cases e1
    · rename_i e _ ret _ _ _ _ hs' c' r' cs' e1 e2
      cases e1
      cases e2
      simp only [Bool.and_eq_true, decide_eq_true_eq, bne_iff_ne] at h
      obtain ⟨h1, h2, h3, rfl, h5⟩ := h
      obtain ⟨d, hd, rfl⟩ := Option.map_eq_some_iff.mp h3
      exact .cons (gl_ok h1) (hex c d hd) (beq_eq_false_iff_ne.mpr h2) (ths_of hex h5)
    · cases h
theorem hsEq_ok : ∀ {h : Hs} {cs : List (Nat × List Nat)}, hsEq h cs = true → h = hsOf cs
  | .nil, [], _ => rfl
  | .nil, _ :: _, h => by simp [hsEq] at h
  | .ret c k r, [], h => by cases k <;> simp [hsEq] at h
  | .ret c k r, (d, t) :: cs, h => by
    cases k with
    | str s =>
      simp only [hsEq, Bool.and_eq_true, decide_eq_true_eq] at h
      obtain ⟨⟨rfl, rfl⟩, h⟩ := h
      rw [hsEq_ok h]
      rfl
    | _ => simp [hsEq] at h
  | .cnt _ _, cs, h => by cases cs <;> simp [hsEq] at h
  | .fld _ _ _, cs, h => by cases cs <;> simp [hsEq] at h
theorem tell_of (g : Good p) (KX : K.In hp) (GN : hp.Ns mainGlobals mg) (c : He.SaysD p.fa p.fn K) : ToldF mg (p.G K) p.T ∧ TellFn p.pg p.T := by
  have h := g.tell
  unfold tellB at h
  split at h
  · rename_i at_ name qual args a p1 p2 p3 h₀ hs p8 sg N n1 n2 hh e
    simp only [Bool.and_eq_true, decide_eq_true_eq] at h
    obtain ⟨⟨rfl, rfl, rfl, h4, h5, h6, h7⟩, h8, h9, h10, h11⟩ := h
    obtain ⟨F, f1, f2⟩ := fd_of c e
    have hb := binds_of g c e
    refine ⟨?_, ⟨n1, n2, by simp only [Pk.pg, e, hsEq_ok h11]⟩⟩
    obtain ⟨oc, od, dV, kV, doc, pm, an, cdv, ct, osl, e1, lk, hcd, _⟩ := F.ex
    have glo : mg p.T.tname = some (.ref (He.ga K p.T.tname)) := He.glo_ok KX GN (c.facts (f := .glo p.T.tname) (by unfold Pk.fa; simp))
    have S : FnScope N [a] sg := C8.fnScope_by h8
    have hN0 : N[0]? = some a := by
      have := S.pre
      cases N with
      | nil => simp at this
      | cons b r => simpa using this
    rw [e1] at hb lk
    have hps : DD.ps ⟨(p.T.tname, none), p.T.tname, p.T.tname, args, [.Try [.Return (some (.Call (.Name a p1) [] [] p2)) p3] (h₀ :: hs) [] [] p8], sg, N, ⟨n1, n2, .cons (.tryy (.cons (.ret .thk) .nil) hh) .nil, false⟩, false, false⟩ = [a] := h4
    rw [hps] at hb
    exact ⟨a, He.ga K p.T.tname, _, sg, dV, kV, doc, pm, cdv, ct, oc, an, od, osl, N, p1, p2, p3, p8, h₀, hs, glo, F.kp, lk, hcd, hb, S, hN0, vis_ok h9, ths_of (fun k d hk => glo_of KX GN c hk) h10, fun f => rfl, beq_eq_false_iff_ne.mpr h5, beq_eq_false_iff_ne.mpr h6, beq_eq_false_iff_ne.mpr h7⟩
  · cases h
theorem gt_of (g : Good p) (KX : K.In hp) (GN : hp.Ns mainGlobals mg) (c : He.SaysD p.fa p.fn K) : GT mg (p.G K) p.pg (p.Df K) p.T :=
  ⟨txt_of g c, sub_of c, fn_of' g KX GN c, cl_of g KX GN c, ex_of g KX GN c, mt_of g c, fun f x h => getF_fnm h, fun x hx => He.free_ok KX GN (c.facts (f := .free x) (by
    unfold Pk.fa
    simp only [List.mem_append, List.mem_map]
    exact .inl (.inl (.inr ⟨x, hx, rfl⟩)))), (tell_of g KX GN c).1⟩
/-- each def, with its tables -/
theorem defOk_of (g : Good p) (c : He.SaysD p.fa p.fn K) (hex : p.ex K = true) {base : Heap} (TB : ∀ d ∈ p.lams, LamX.TabB base mg (He.cT K d.at_).1 (He.cT K d.at_).2) (f : Nat) (hf : (p.Df K).ok f = true) : DefOk mg base (p.G K) p.pg (p.Df K) p.T f := by
  refine ⟨?_⟩
  have hf' := hf
  simp only [Pk.Df] at hf'
  split at hf'
  · rename_i d e
    obtain ⟨F, f1, f2⟩ := fd_of c e
    obtain ⟨oc, od, dV, kV, doc, pm, an, cdv, ct, osl, e1, lk, hcd, _⟩ := F.ex
    have gd := g.defs d (List.mem_of_getElem? e)
    unfold DD.good at gd
    simp only [Bool.and_eq_true, decide_eq_true_eq, Bool.or_eq_true, Bool.not_eq_true', hf', Bool.true_eq_false, false_or] at gd
    obtain ⟨g1, g2, g3, g4, g5⟩ := gd
    refine ⟨d.fn, d.name, d.qual, _, d.body, d.scope, dV, kV, doc, pm, cdv, ct, oc, an, od, osl, d.N, d.lam, by simp only [Pk.pg, e], e1, by rw [f1, ← e1]; exact lk, hcd, by rw [f2]; exact C8.fnScope_by g2, by rw [f2]; exact g3, g4, g5, fun hl => ?_⟩
    have hm : d ∈ p.lams := List.mem_filter.mpr ⟨List.mem_of_getElem? e, hl⟩
    obtain ⟨k, hk⟩ := He.codeIn_ref hcd
    have hck : He.codeOf K d.at_ = k := by
      rw [e1] at lk
      exact He.codeOf_eq lk hk
    have hT := TB d hm
    refine ⟨k, (He.cT K d.at_).2, hk, ?_, List.mem_map.mpr ⟨d, hm, rfl⟩, fun q hq hqe => ?_⟩
    · have : (He.cT K d.at_).1 = k := hck
      rw [this] at hT
      exact hT
    · unfold Pk.ex at hex
      simp only [Bool.and_eq_true, decide_eq_true_eq] at hex
      have hnd : ((p.tabs K).map (·.1)).Nodup := hex.2
      have hq2 : ((He.cT K d.at_).2, (d.qual ++ ".<locals>.") ++ "<lambda>") ∈ p.tabs K := List.mem_map.mpr ⟨d, hm, rfl⟩
      obtain ⟨i, hi, ei⟩ := List.mem_iff_getElem.mp (show q ∈ p.tabs K from hq)
      obtain ⟨j, hj, ej⟩ := List.mem_iff_getElem.mp hq2
      have : i = j := by
        refine (List.getElem_inj hnd (i := i) (j := j) (h₀ := by simpa using hi) (h₁ := by simpa using hj)).mp ?_
        rw [List.getElem_map, List.getElem_map, ei, ej]
        exact hqe
      subst this
      rw [ei] at ej
      rw [ej]
  · cases hf'
end
end Mn

end

section
set_option Elab.async false
set_option linter.all false
set_option maxRecDepth 100000
set_option maxHeartbeats 2000000
/-! Mini: a law, from its run by the small machine. -/
namespace Mn
open PySem PySem.Spec PyProof.Rows L2
def sto0 : Sto := ⟨0, fun _ => none⟩
/-- what the mathematics shows -/
def Holds' (p : Pk) (k lf n : Nat) : Prop := ∀ ns : List Int, ns.length ≤ n → (∀ z ∈ ns, Builtin.Int.intBits z ≤ 1048576) → ∃ s', atT (tower p.pg k) 0 lf [.lst (ns.map .int)] none sto0 = some (.ok (.bl true), s')
theorem sim0 {G : Gx} {H : Hp} (hc : G.con = []) (ht : LamX.Tabs G.T H) : Sim G [] sto0 [] H :=
  ⟨rfl, fun n o h => absurd (show (none : Option SO) = some o from h) (by simp), fun n m a o u h _ _ _ => absurd (show (none : Option SO) = some o from h) (by simp), fun n o h => absurd (show (none : Option SO) = some o from h) (by simp), fun a h => absurd h (by simp), ht, fun q hq => absurd hq (by rw [hc]; simp), fun a h => absurd h (by simp)⟩
theorem law_at {p : Pk} (g : p.good = true) {lf k n : Nat} {x : Str} (hl : p.T.funs.lookup ("law" : Str) = some (lf, 1)) (hx : (p.Df []).par lf = [x]) (hm : Holds' p k lf n) {l : PySem.W.OpenLaw} {w : World} {K : PySem.W.Frag} {mg : Str → Option Value} {fa : Addr} {h : Heap}
    (KX : K.In h) (GN : h.Ns mainGlobals mg) (c : He.SaysX p.fa p.fn [] p.tf p.ex w h K) (hmg : mg "law" = some (.ref fa)) : LamX.LawAtS l w K (CX l.prog w) (k + 4) n x mg fa h := by
  have gd := good_of g
  have cd := c.t.d
  have hK := c.more
  obtain ⟨q1, q2, q3, q4, q5⟩ := fn_of' gd KX GN cd "law" lf 1 hl
  have efa : fa = (p.Df K).fad lf := by
    rw [hmg] at q1
    cases q1
    rfl
  have hpar : (p.Df K).par lf = [x] := hx
  rw [hpar] at q4
  refine ⟨(p.Df K).fdt lf, p.tf.map (He.cT K), spF (p.G K) (atT (tower p.pg k) 0) lf ((p.Df K).par lf).length, fun q hq => ?_, fun q hq => ?_, fun q hq => ?_, fun s u => ?_, fun H a ns hn hb hH hS => ?_, fun base KB GB TB => ?_⟩
  · obtain ⟨t, ht, rfl⟩ := List.mem_map.mp hq
    exact c.empty t ht
  · obtain ⟨t, ht, rfl⟩ := List.mem_map.mp hq
    exact c.out t ht
  · obtain ⟨t, ht, rfl⟩ := List.mem_map.mp hq
    exact PySem.W.codeHd_of_K KX (c.hd t ht)
  · obtain ⟨d, d1, d2, d3, d4⟩ := defAt_ok (gd.funs _ (mem_lk hl))
    obtain ⟨F, f1, f2⟩ := fd_of cd d1
    have hps : d.ps = [x] := by rw [← f2]; exact hpar
    have nd := gd.defs d (List.mem_of_getElem? d1)
    unfold DD.good at nd
    simp only [Bool.and_eq_true, decide_eq_true_eq] at nd
    have b := FunD.bindsA (ps := d.ps) F (fun _ _ _ _ _ _ us hl => bind_plain nd.1 hl) s [u] (by rw [hps]; rfl)
    rw [hps] at b
    exact b
  · rw [hpar]
    have rd : Rd H a (.lst (ns.map V.int)) := by
      rcases hS with h | ⟨o, its, m, h1, h2, _⟩
      · exact h
      · have hK2 := hK
        unfold Pk.ex at hK2
        simp only [Bool.and_eq_true, List.all_eq_true, Bool.not_eq_true'] at hK2
        have := hK2.1 _ (mem_lk h1)
        unfold isList at this
        rw [h2] at this
        simp at this
    have ht : LamX.Tabs (p.G K).T H := fun q hq => by
      obtain ⟨d, hd, rfl⟩ := List.mem_map.mp (show q ∈ p.tabs K from hq)
      exact LamX.TabS.nil (hH _ (List.mem_map.mpr ⟨d.at_, List.mem_map.mpr ⟨d, hd, rfl⟩, rfl⟩))
    have S : Sim (p.G K) [] sto0 [] H := sim0 rfl ht
    refine ⟨rfl, [], sto0, [], [.lst (ns.map .int)], S, DenL.cons ?_ DenL.nil, ?_⟩
    · simp only [Den]
      refine ⟨a, _, rfl, ⟨⟨fun ⟨n, o, z, _⟩ => absurd (show (none : Option SO) = some o from z) (by simp), fun z => absurd z (by simp)⟩, rd⟩, ints_is ns⟩
    · obtain ⟨s', e⟩ := hm ns hn hb
      rw [e]
      exact fun ι' H' St v d => by simpa only [Den] using d
  · have TB' : ∀ d ∈ p.lams, LamX.TabB base mg (He.cT K d.at_).1 (He.cT K d.at_).2 := fun d hd => TB _ (List.mem_map.mpr ⟨d.at_, List.mem_map.mpr ⟨d, hd, rfl⟩, rfl⟩)
    have gt := gt_of gd KB GB cd
    have lv := lev_all (P := l.prog) (w := w) (base := base) gt (fun f hf => defOk_of gd cd hK TB' f hf) (tell_of gd KB GB cd).2 k k (Nat.le_refl _)
    have := lv lf q2
    rw [efa, ← hpar]
    exact this
end Mn

end

section
set_option Elab.async false
set_option linter.all false
set_option maxRecDepth 100000
/-! Mini: how a run of the small machine is followed: from a state on, with what is wanted behind it. -/
namespace Mn
abbrev KM (α : Type) := Except Xn α → Sto → Prop
abbrev KO := O → Sto → Prop
def Wr {α : Type} (r : Rs α) (Q : KM α) : Prop := match r with
  | some (x, s') => Q x s'
  | none => False
/-- m from s on ends with Q -/
def Wp {α : Type} (m : M α) (s : Sto) (Q : KM α) : Prop := Wr (m s) Q
def Wo (m : MO) (s : Sto) (Q : KO) : Prop := match m s with
  | some (x, s') => Q x s'
  | none => False
def W1 {α : Type} (r : Option (α × Sto)) (Q : KM α) : Prop := match r with
  | some (x, s') => Q (.ok x) s'
  | none => False
/-- what stands behind -/
def BindK {α β : Type} (f : α → M β) (Q : KM β) : KM α := fun r s => match r with
  | .ok a => Wp (f a) s Q
  | .error e => Q (.error e) s
def ToOK {α : Type} (ρ : Env) (k : α → MO) (Q : KO) : KM α := fun r s => match r with
  | .ok a => Wo (k a) s Q
  | .error e => Q (.ex e ρ) s
def SeqK (k : Env → MO) (Q : KO) : KO := fun o s => match o with
  | .nx ρ => Wo (k ρ) s Q
  | o => Q o s
def CalmK {α : Type} (Q : KM α) : KM α := fun r s => match r with
  | .ok a => Q (.ok a) s
  | .error _ => False
def RetK (th : Bool) (fr : Bool) (Q : KM W) : KO := fun o s => match o with
  | .nx _ => Q (.ok .non) s
  | .rt w => if fr then Wp (M.op (frzW w)) s Q else Q (.ok w) s
  | .ex e _ => if th then False else Q (.error e) s
  | _ => False
def MakeK (fr : Bool) (n : Nat) (Q : KM W) : KM W := fun r s => match r with
  | .ok .non => if fr then Wp (M.op (frzW (.ref n))) s Q else Q (.ok (.ref n)) s
  | .ok _ => False
  | .error e => Q (.error e) s
def TryK (P : Pg) (h : Hs) (Q : KO) : KO := fun o s => match o with
  | .ex e ρ => Wo (caught P e ρ h) s Q
  | o => Q o s
def TurnK (ok : Sto → Bool) (J : Env → Sto → Prop) (Q : KO) : KO := fun o s => match o with
  | .nx ρ => ok s = true ∧ J ρ s
  | .ct ρ => ok s = true ∧ J ρ s
  | .bk ρ => Q (.nx ρ) s
  | o => Q o s
def WhilK (J : Env → Sto → Prop) (Q : KO) : KO := fun o s => match o with
  | .nx ρ => J ρ s
  | .ct ρ => J ρ s
  | .bk ρ => Q (.nx ρ) s
  | o => Q o s
def LockK {α : Type} (n : Nat) (Q : KM α) : KM α := fun r s => match r with
  | .ok a => (match unlk n s with
    | some s2 => Q (.ok a) s2
    | none => False)
  | .error _ => False
def LockO (n : Nat) (Q : KO) : KO := fun o s => match o with
  | .ex _ _ => False
  | o => (match unlk n s with
    | some s2 => Q o s2
    | none => False)
/-- a choice, not looked into -/
def IfK (A B : Unit → Prop) (t : Bool) : Prop := match t with
  | true => A ()
  | false => B ()
def PickM {α : Type} (t : Bool) (a b : M α) : M α := if t then a else b
section
variable {α β : Type}
theorem Wp.mono {m : M α} {s : Sto} {Q Q' : KM α} (h : Wp m s Q) (hQ : ∀ r s', Q r s' → Q' r s') : Wp m s Q' := by
  unfold Wp Wr at h ⊢
  cases e : m s with
  | none => rw [e] at h; exact h
  | some p => rw [e] at h; exact hQ _ _ h
theorem Wo.mono {m : MO} {s : Sto} {Q Q' : KO} (h : Wo m s Q) (hQ : ∀ r s', Q r s' → Q' r s') : Wo m s Q' := by
  unfold Wo at h ⊢
  cases e : m s with
  | none => rw [e] at h; exact h
  | some p => rw [e] at h; exact hQ _ _ h
theorem wp_iff {m : M α} {s : Sto} {Q : KM α} : Wp m s Q ↔ ∃ r s', m s = some (r, s') ∧ Q r s' := by
  unfold Wp Wr
  cases e : m s with
  | none => exact ⟨False.elim, fun ⟨_, _, h, _⟩ => by cases h⟩
  | some p => exact ⟨fun h => ⟨p.1, p.2, rfl, h⟩, fun ⟨r, s', h, q⟩ => by cases h; exact q⟩
theorem wp_ret {a : α} {s : Sto} {Q : KM α} : Wp (M.ret a) s Q = Q (.ok a) s := rfl
theorem wp_bind {m : M α} {f : α → M β} {s : Sto} {Q : KM β} : Wp (M.bind m f) s Q = Wp m s (BindK f Q) := by
  unfold Wp Wr M.bind
  cases e : m s with
  | none => rfl
  | some p =>
    obtain ⟨r, s'⟩ := p
    cases r <;> rfl
theorem bindK_ok {f : α → M β} {Q : KM β} {a : α} {s : Sto} : BindK f Q (.ok a) s = Wp (f a) s Q := rfl
theorem bindK_er {f : α → M β} {Q : KM β} {e : Xn} {s : Sto} : BindK f Q (.error e) s = Q (.error e) s := rfl
theorem toOK_ok {ρ : Env} {k : α → MO} {Q : KO} {a : α} {s : Sto} : ToOK ρ k Q (.ok a) s = Wo (k a) s Q := rfl
theorem toOK_er {ρ : Env} {k : α → MO} {Q : KO} {e : Xn} {s : Sto} : ToOK ρ k Q (.error e) s = Q (.ex e ρ) s := rfl
theorem seqK_nx {k : Env → MO} {Q : KO} {ρ : Env} {s : Sto} : SeqK k Q (.nx ρ) s = Wo (k ρ) s Q := rfl
theorem seqK_rt {k : Env → MO} {Q : KO} {w : W} {s : Sto} : SeqK k Q (.rt w) s = Q (.rt w) s := rfl
theorem seqK_bk {k : Env → MO} {Q : KO} {ρ : Env} {s : Sto} : SeqK k Q (.bk ρ) s = Q (.bk ρ) s := rfl
theorem seqK_ct {k : Env → MO} {Q : KO} {ρ : Env} {s : Sto} : SeqK k Q (.ct ρ) s = Q (.ct ρ) s := rfl
theorem seqK_ex {k : Env → MO} {Q : KO} {ρ : Env} {e : Xn} {s : Sto} : SeqK k Q (.ex e ρ) s = Q (.ex e ρ) s := rfl
theorem calmK_ok {Q : KM α} {a : α} {s : Sto} : CalmK Q (.ok a) s = Q (.ok a) s := rfl
theorem retK_nx {th fr : Bool} {Q : KM W} {ρ : Env} {s : Sto} : RetK th fr Q (.nx ρ) s = Q (.ok .non) s := rfl
theorem retK_rt {th : Bool} {Q : KM W} {w : W} {s : Sto} : RetK th false Q (.rt w) s = Q (.ok w) s := rfl
theorem retK_rtf {th : Bool} {Q : KM W} {w : W} {s : Sto} : RetK th true Q (.rt w) s = Wp (M.op (frzW w)) s Q := rfl
theorem retK_ex {fr : Bool} {Q : KM W} {e : Xn} {ρ : Env} {s : Sto} : RetK false fr Q (.ex e ρ) s = Q (.error e) s := rfl
theorem makeK_non {n : Nat} {Q : KM W} {s : Sto} : MakeK false n Q (.ok .non) s = Q (.ok (.ref n)) s := rfl
theorem makeK_nonf {n : Nat} {Q : KM W} {s : Sto} : MakeK true n Q (.ok .non) s = Wp (M.op (frzW (.ref n))) s Q := rfl
theorem makeK_er {fr : Bool} {n : Nat} {Q : KM W} {e : Xn} {s : Sto} : MakeK fr n Q (.error e) s = Q (.error e) s := rfl
theorem tryK_ex {P : Pg} {h : Hs} {Q : KO} {e : Xn} {ρ : Env} {s : Sto} : TryK P h Q (.ex e ρ) s = Wo (caught P e ρ h) s Q := rfl
theorem tryK_nx {P : Pg} {h : Hs} {Q : KO} {ρ : Env} {s : Sto} : TryK P h Q (.nx ρ) s = Q (.nx ρ) s := rfl
theorem tryK_rt {P : Pg} {h : Hs} {Q : KO} {w : W} {s : Sto} : TryK P h Q (.rt w) s = Q (.rt w) s := rfl
theorem tryK_bk {P : Pg} {h : Hs} {Q : KO} {ρ : Env} {s : Sto} : TryK P h Q (.bk ρ) s = Q (.bk ρ) s := rfl
theorem tryK_ct {P : Pg} {h : Hs} {Q : KO} {ρ : Env} {s : Sto} : TryK P h Q (.ct ρ) s = Q (.ct ρ) s := rfl
theorem turnK_nx {ok : Sto → Bool} {J : Env → Sto → Prop} {Q : KO} {ρ : Env} {s : Sto} : TurnK ok J Q (.nx ρ) s = (ok s = true ∧ J ρ s) := rfl
theorem turnK_ct {ok : Sto → Bool} {J : Env → Sto → Prop} {Q : KO} {ρ : Env} {s : Sto} : TurnK ok J Q (.ct ρ) s = (ok s = true ∧ J ρ s) := rfl
theorem turnK_bk {ok : Sto → Bool} {J : Env → Sto → Prop} {Q : KO} {ρ : Env} {s : Sto} : TurnK ok J Q (.bk ρ) s = Q (.nx ρ) s := rfl
theorem turnK_rt {ok : Sto → Bool} {J : Env → Sto → Prop} {Q : KO} {w : W} {s : Sto} : TurnK ok J Q (.rt w) s = Q (.rt w) s := rfl
theorem turnK_ex {ok : Sto → Bool} {J : Env → Sto → Prop} {Q : KO} {e : Xn} {ρ : Env} {s : Sto} : TurnK ok J Q (.ex e ρ) s = Q (.ex e ρ) s := rfl
theorem whilK_nx {J : Env → Sto → Prop} {Q : KO} {ρ : Env} {s : Sto} : WhilK J Q (.nx ρ) s = J ρ s := rfl
theorem whilK_ct {J : Env → Sto → Prop} {Q : KO} {ρ : Env} {s : Sto} : WhilK J Q (.ct ρ) s = J ρ s := rfl
theorem whilK_bk {J : Env → Sto → Prop} {Q : KO} {ρ : Env} {s : Sto} : WhilK J Q (.bk ρ) s = Q (.nx ρ) s := rfl
theorem whilK_rt {J : Env → Sto → Prop} {Q : KO} {w : W} {s : Sto} : WhilK J Q (.rt w) s = Q (.rt w) s := rfl
theorem whilK_ex {J : Env → Sto → Prop} {Q : KO} {e : Xn} {ρ : Env} {s : Sto} : WhilK J Q (.ex e ρ) s = Q (.ex e ρ) s := rfl
theorem ifK_t {A B : Unit → Prop} : IfK A B true = A () := rfl
theorem ifK_f {A B : Unit → Prop} : IfK A B false = B () := rfl
theorem wp_of {a : α} {s : Sto} {Q : KM α} : Wp (M.of (some a)) s Q = Q (.ok a) s := rfl
theorem wp_ofs {o : Sto → Option α} {s : Sto} {Q : KM α} : Wp (fun s => M.of (o s) s) s Q = Wp (M.of (o s)) s Q := rfl
theorem wp_op {m : Op1 α} {s : Sto} {Q : KM α} : Wp (M.op m) s Q = W1 (m s) Q := by
  unfold Wp Wr W1 M.op
  cases e : m s with
  | none => rfl
  | some p => rfl
theorem w1_some {a : α} {s : Sto} {Q : KM α} : W1 (some (a, s)) Q = Q (.ok a) s := rfl
theorem w1_of {a : α} {s : Sto} {Q : KM α} : W1 (Op1.of (some a) s) Q = Q (.ok a) s := rfl
theorem w1_ret {a : α} {s : Sto} {Q : KM α} : W1 (Op1.ret a s) Q = Q (.ok a) s := rfl
theorem w1_ite {c : Prop} [Decidable c] {r : Option (α × Sto)} {Q : KM α} : W1 (if c then r else none) Q = (c ∧ W1 r Q) := by
  by_cases h : c
  · simp [h]
  · simp [h, W1]
theorem wp_calm {m : M α} {s : Sto} {Q : KM α} : Wp (M.calm m) s Q = Wp m s (CalmK Q) := by
  unfold Wp Wr M.calm
  cases e : m s with
  | none => rfl
  | some p =>
    obtain ⟨r, s'⟩ := p
    cases r <;> rfl
theorem wp_get {s : Sto} {Q : KM Sto} : Wp M.get s Q = Q (.ok s) s := rfl
theorem wp_no {c : Prop} [Decidable c] {a : M α} {s : Sto} {Q : KM α} : Wp (if c then a else M.no) s Q = (c ∧ Wp a s Q) := by
  by_cases h : c
  · simp [h]
  · simp [h, Wp, Wr, M.no]
theorem wp_ite {c : Prop} [Decidable c] {a b : M α} {s : Sto} {Q : KM α} : Wp (if c then a else b) s Q = IfK (fun _ => Wp a s Q) (fun _ => Wp b s Q) (decide c) := by
  by_cases h : c
  · simp [h, IfK]
  · simp [h, IfK]
theorem wo_ite {c : Prop} [Decidable c] {a b : MO} {s : Sto} {Q : KO} : Wo (if c then a else b) s Q = IfK (fun _ => Wo a s Q) (fun _ => Wo b s Q) (decide c) := by
  by_cases h : c
  · simp [h, IfK]
  · simp [h, IfK]
theorem wo_toO {ρ : Env} {m : M α} {k : α → MO} {s : Sto} {Q : KO} : Wo (toO ρ m k) s Q = Wp m s (ToOK ρ k Q) := by
  unfold Wp Wr Wo toO
  cases e : m s with
  | none => rfl
  | some p =>
    obtain ⟨r, s'⟩ := p
    cases r <;> rfl
theorem wo_seq {m : MO} {k : Env → MO} {s : Sto} {Q : KO} : Wo (MO.seq m k) s Q = Wo m s (SeqK k Q) := by
  unfold Wo MO.seq
  cases e : m s with
  | none => rfl
  | some p =>
    obtain ⟨r, s'⟩ := p
    cases r <;> rfl
theorem wo_end {o : O} {s : Sto} {Q : KO} : Wo (fun s => some (o, s)) s Q = Q o s := rfl
end
section
variable {P : Pg} {tw : List F} {th : Option (M W)} {ρ : Env} {s : Sto}
/-! expressions -/
theorem wv_cst {k : Kc} {Q : KM W} : Wp (ev P tw th (.cst k) ρ) s Q = Q (.ok (kcW k)) s := by simp only [ev]; rfl
theorem wv_var {i : Nat} {Q : KM W} : Wp (ev P tw th (.var i) ρ) s Q = Wp (M.of (ρ[i]?.join)) s Q := by simp only [ev]
theorem wv_bin {o : B2} {a b : E} {Q : KM W} : Wp (ev P tw th (.bin o a b) ρ) s Q = Wp (ev P tw th a ρ) s (BindK (fun x => M.bind (ev P tw th b ρ) fun y => M.op (b2W o x y)) Q) := by simp only [ev, wp_bind]
theorem wv_neg {a : E} {Q : KM W} : Wp (ev P tw th (.neg a) ρ) s Q = Wp (ev P tw th a ρ) s (BindK (fun x => match x with
    | .int i => M.ret (.int (-i))
    | _ => M.no) Q) := by (simp only [ev, wp_bind]) <;> rfl
theorem wv_cmp {o : C2} {a b : E} {Q : KM W} : Wp (ev P tw th (.cmp o a b) ρ) s Q = Wp (ev P tw th a ρ) s (BindK (fun x => M.bind (ev P tw th b ρ) fun y => M.op (c2W o x y)) Q) := by simp only [ev, wp_bind]
theorem wv_chn {o p : C2} {a b c : E} {Q : KM W} : Wp (ev P tw th (.chn o p a b c) ρ) s Q = Wp (ev P tw th a ρ) s (BindK (fun x => M.bind (ev P tw th b ρ) fun y => M.bind (M.op (c2W o x y)) fun z => match z with
    | .bl true => M.bind (ev P tw th c ρ) fun u => M.op (c2W p y u)
    | .bl false => M.ret (.bl false)
    | _ => M.no) Q) := by (simp only [ev, wp_bind]) <;> rfl
theorem wv_isN {t : Bool} {a : E} {Q : KM W} : Wp (ev P tw th (.isN t a) ρ) s Q = Wp (ev P tw th a ρ) s (BindK (fun x => M.ret (.bl (if isNonW x then t else !t))) Q) := by simp only [ev, wp_bind]
theorem wv_and {a b : E} {Q : KM W} : Wp (ev P tw th (.and_ a b) ρ) s Q = Wp (ev P tw th a ρ) s (BindK (fun x => M.bind (M.tru x) fun t => if t then ev P tw th b ρ else M.ret x) Q) := by simp only [ev, wp_bind]
theorem wv_or {a b : E} {Q : KM W} : Wp (ev P tw th (.or_ a b) ρ) s Q = Wp (ev P tw th a ρ) s (BindK (fun x => M.bind (M.tru x) fun t => if t then M.ret x else ev P tw th b ρ) Q) := by simp only [ev, wp_bind]
theorem wv_not {a : E} {Q : KM W} : Wp (ev P tw th (.not_ a) ρ) s Q = Wp (ev P tw th a ρ) s (BindK (fun x => M.bind (M.tru x) fun t => M.ret (.bl (!t))) Q) := by simp only [ev, wp_bind]
theorem wv_ite {c a b : E} {Q : KM W} : Wp (ev P tw th (.ite c a b) ρ) s Q = Wp (ev P tw th c ρ) s (BindK (fun x => M.bind (M.tru x) fun t => if t then ev P tw th a ρ else ev P tw th b ρ) Q) := by simp only [ev, wp_bind]
theorem wv_tup {es : Es} {Q : KM W} : Wp (ev P tw th (.tup es) ρ) s Q = Wp (evs P tw th es ρ) s (BindK (fun xs => if xs.length ≤ line then M.ret (.tup xs) else M.no) Q) := by simp only [ev, wp_bind]
theorem wv_lst {m : Bool} {es : Es} {Q : KM W} : Wp (ev P tw th (.lst m es) ρ) s Q = Wp (evs P tw th es ρ) s (BindK (fun xs => M.op (mkL m xs)) Q) := by simp only [ev, wp_bind]
theorem wv_dct0 {Q : KM W} : Wp (ev P tw th .dct0 ρ) s Q = Q (.ok (.ref s.nxt)) (s.new (.dct false [])) := by simp only [ev]; rfl
theorem wv_fld {a : E} {f : Nat} {Q : KM W} : Wp (ev P tw th (.fld a f) ρ) s Q = Wp (ev P tw th a ρ) s (BindK (fun x => M.op (fldW P x f)) Q) := by simp only [ev, wp_bind]
theorem wv_idx {a b : E} {Q : KM W} : Wp (ev P tw th (.idx a b) ρ) s Q = Wp (ev P tw th a ρ) s (BindK (fun x => M.bind (ev P tw th b ρ) fun y => M.op (idxW x y)) Q) := by simp only [ev, wp_bind]
theorem wv_slc {a : E} {lo hi : Op} {Q : KM W} : Wp (ev P tw th (.slc a lo hi) ρ) s Q = Wp (ev P tw th a ρ) s (BindK (fun x => M.bind (evo P tw th lo ρ) fun l => M.bind (evo P tw th hi ρ) fun h => M.op (slcW x l h)) Q) := by simp only [ev, wp_bind]
theorem wv_call {f : Nat} {es : Es} {Q : KM W} : Wp (ev P tw th (.call f es) ρ) s Q = Wp (evs P tw th es ρ) s (BindK (fun xs => atT tw 0 f xs none) Q) := by simp only [ev, wp_bind]
theorem wv_new {c : Nat} {es : Es} {Q : KM W} : Wp (ev P tw th (.new c es) ρ) s Q = Wp (evs P tw th es ρ) s (BindK (fun xs => M.make P (atT tw 1) c xs) Q) := by simp only [ev, wp_bind]
theorem wv_meth {a : E} {m : Nat} {es : Es} {Q : KM W} : Wp (ev P tw th (.meth a m es) ρ) s Q = Wp (ev P tw th a ρ) s (BindK (fun o => M.bind (fun s => M.of (methOf P m (insOf s o)) s) fun g => M.bind (evs P tw th es ρ) fun xs => atT tw 0 g (o :: xs) none) Q) := by simp only [ev, wp_bind]
theorem wv_bi {b : Bi} {es : Es} {Q : KM W} : Wp (ev P tw th (.bi b es) ρ) s Q = Wp (evs P tw th es ρ) s (BindK (fun xs => M.op (biW b xs)) Q) := by simp only [ev, wp_bind]
theorem wv_bm {b : Bm} {a : E} {es : Es} {Q : KM W} : Wp (ev P tw th (.bm b a es) ρ) s Q = Wp (ev P tw th a ρ) s (BindK (fun x => M.bind (evs P tw th es ρ) fun xs => M.op (bmW b x xs)) Q) := by simp only [ev, wp_bind]
/-- a comprehension's turn -/
def compG (P : Pg) (tw : List F) (th : Option (M W)) (elt : E) (t : Tg) (ts : Es) (ρ : Env) : W → M (Option W) := fun x => M.bind (asgT P tw th t x (wipeE ρ (tgSlots t))) fun ρ' => M.bind (tst P tw th ts ρ') fun b => if b then M.bind (ev P tw th elt ρ') fun y => M.ret (some y) else M.ret none
theorem wv_comp {m : Bool} {elt : E} {t : Tg} {it : It} {ts : Es} {Q : KM W} : Wp (ev P tw th (.comp m elt t it ts) ρ) s Q = Wp (evi P tw th it ρ) s (BindK (fun src => M.bind (M.calm (M.gather (compG P tw th elt t ts ρ) src.grd src.items)) fun ys => M.op (mkL m ys)) Q) := by (simp only [ev, wp_bind]) <;> rfl
theorem wc_compG {elt : E} {t : Tg} {ts : Es} {x : W} {Q : KM (Option W)} : Wp (compG P tw th elt t ts ρ x) s Q = Wp (asgT P tw th t x (wipeE ρ (tgSlots t))) s (BindK (fun ρ' => M.bind (tst P tw th ts ρ') fun b => if b then M.bind (ev P tw th elt ρ') fun y => M.ret (some y) else M.ret none) Q) := by unfold compG; rw [wp_bind]
theorem wv_lkd {i : Nat} {f : Option Nat} {e : E} {Q : KM W} : Wp (ev P tw th (.lkd i f e) ρ) s Q = Wp (M.lock ρ i f (ev P tw th e ρ)) s Q := by simp only [ev]
theorem wv_inV {t : Bool} {a d : E} {Q : KM W} : Wp (ev P tw th (.inV t a d) ρ) s Q = Wp (ev P tw th a ρ) s (BindK (fun x => M.bind (ev P tw th d ρ) fun y => M.bind (M.op (inVW x y)) fun b => M.ret (.bl (if b then t else !t))) Q) := by simp only [ev, wp_bind]
theorem wv_litems {m : Bool} {d : E} {Q : KM W} : Wp (ev P tw th (.litems m d) ρ) s Q = Wp (ev P tw th d ρ) s (BindK (fun x => M.bind (fun s => M.of (dctOf s x) s) fun kvs => M.op (mkL m (itemsV kvs))) Q) := by simp only [ev, wp_bind]
theorem wv_dget {d k x : E} {Q : KM W} : Wp (ev P tw th (.dget d k x) ρ) s Q = Wp (ev P tw th d ρ) s (BindK (fun u => M.bind (fun s => M.of (dctOf s u) s) fun _ => M.bind (ev P tw th k ρ) fun y => M.bind (ev P tw th x ρ) fun z => M.op (get2W u y z)) Q) := by simp only [ev, wp_bind]
theorem wv_lam {f : Nat} {b : E} {Q : KM W} : Wp (ev P tw th (.lam f b) ρ) s Q = Wp (atT tw 0 f [] (some (ev P (tw.drop 2) none b ρ))) s Q := by simp only [ev]
theorem wv_thk {m : M W} {Q : KM W} : Wp (ev P tw (some m) .thk ρ) s Q = Wp m s Q := by simp only [ev, M.thunk]
theorem ws_nil {Q : KM (List W)} : Wp (evs P tw th .nil ρ) s Q = Q (.ok []) s := by simp only [evs]; rfl
theorem ws_cons {e : E} {r : Es} {Q : KM (List W)} : Wp (evs P tw th (.cons e r) ρ) s Q = Wp (ev P tw th e ρ) s (BindK (fun x => M.bind (evs P tw th r ρ) fun xs => M.ret (x :: xs)) Q) := by simp only [evs, wp_bind]
theorem wt_nil {Q : KM Bool} : Wp (tst P tw th .nil ρ) s Q = Q (.ok true) s := by simp only [tst]; rfl
theorem wt_cons {e : E} {r : Es} {Q : KM Bool} : Wp (tst P tw th (.cons e r) ρ) s Q = Wp (ev P tw th e ρ) s (BindK (fun x => M.bind (M.tru x) fun b => if b then tst P tw th r ρ else M.ret false) Q) := by simp only [tst, wp_bind]
theorem wq_no {Q : KM (Option Int)} : Wp (evo P tw th .no ρ) s Q = Q (.ok none) s := by simp only [evo]; rfl
theorem wq_so {e : E} {Q : KM (Option Int)} : Wp (evo P tw th (.so e) ρ) s Q = Wp (ev P tw th e ρ) s (BindK (fun x => match x with
    | .int i => M.ret (some i)
    | _ => M.no) Q) := by (simp only [evo, wp_bind]) <;> rfl
theorem wi_seq {e : E} {Q : KM Src} : Wp (evi P tw th (.seq e) ρ) s Q = Wp (ev P tw th e ρ) s (BindK (fun x => M.op (srcW x)) Q) := by simp only [evi, wp_bind]
theorem wi_rng1 {a : E} {Q : KM Src} : Wp (evi P tw th (.rng1 a) ρ) s Q = Wp (ev P tw th a ρ) s (BindK (fun x => match x with
    | .int j => if smallR j then M.ret ⟨rangeL 0 j.toNat, fun _ => true⟩ else M.no
    | _ => M.no) Q) := by (simp only [evi, wp_bind]) <;> rfl
theorem wi_rng2 {a b : E} {Q : KM Src} : Wp (evi P tw th (.rng2 a b) ρ) s Q = Wp (ev P tw th a ρ) s (BindK (fun x => M.bind (ev P tw th b ρ) fun y => match x, y with
    | .int i, .int j => if smallR i && smallR j then M.ret ⟨rangeL i (j - i).toNat, fun _ => true⟩ else M.no
    | _, _ => M.no) Q) := by (simp only [evi, wp_bind]) <;> rfl
theorem wi_enum {e : E} {Q : KM Src} : Wp (evi P tw th (.enum e) ρ) s Q = Wp (ev P tw th e ρ) s (BindK (fun x => M.op (srcL x)) Q) := by simp only [evi, wp_bind]
theorem wi_keys {e : E} {Q : KM Src} : Wp (evi P tw th (.keys e) ρ) s Q = Wp (ev P tw th e ρ) s (BindK (fun x => M.op (vwW keysV x)) Q) := by simp only [evi, wp_bind]
theorem wi_vals {e : E} {Q : KM Src} : Wp (evi P tw th (.vals e) ρ) s Q = Wp (ev P tw th e ρ) s (BindK (fun x => M.op (vwW valsV x)) Q) := by simp only [evi, wp_bind]
theorem wi_items {e : E} {Q : KM Src} : Wp (evi P tw th (.items e) ρ) s Q = Wp (ev P tw th e ρ) s (BindK (fun x => M.op (vwW itemsV x)) Q) := by simp only [evi, wp_bind]
theorem wg_var {i : Nat} {x : W} {Q : KM Env} : Wp (asgT P tw th (.var i) x ρ) s Q = Q (.ok (setE ρ i x)) s := by simp only [asgT]; rfl
theorem wg_tup {ts : Tgs} {x : W} {Q : KM Env} : Wp (asgT P tw th (.tup ts) x ρ) s Q = Wp (M.of (seqOf s x)) s (BindK (fun xs => asgTs P tw th ts xs ρ) Q) := by simp only [asgT, wp_bind]; rfl
theorem wg_sub {o i : E} {x : W} {Q : KM Env} : Wp (asgT P tw th (.sub o i) x ρ) s Q = Wp (ev P tw th o ρ) s (BindK (fun u => M.bind (ev P tw th i ρ) fun j => M.bind (M.op (stS u j x)) fun _ => M.ret ρ) Q) := by simp only [asgT, wp_bind]
theorem wg_fld {o : E} {f : Nat} {x : W} {Q : KM Env} : Wp (asgT P tw th (.fld o f) x ρ) s Q = Wp (ev P tw th o ρ) s (BindK (fun u => M.bind (M.op (stF P u f x)) fun _ => M.ret ρ) Q) := by simp only [asgT, wp_bind]
theorem wgs_nil {Q : KM Env} : Wp (asgTs P tw th .nil [] ρ) s Q = Q (.ok ρ) s := by simp only [asgTs]; rfl
theorem wgs_cons {t : Tg} {r : Tgs} {x : W} {xs : List W} {Q : KM Env} : Wp (asgTs P tw th (.cons t r) (x :: xs) ρ) s Q = Wp (asgT P tw th t x ρ) s (BindK (fun ρ' => asgTs P tw th r xs ρ') Q) := by simp only [asgTs, wp_bind]
/-! statements -/
variable {Q : KO}
theorem wx_expr {e : E} : Wo (ex P tw th (.expr e) ρ) s Q = Wp (ev P tw th e ρ) s (ToOK ρ (fun _ s => some (.nx ρ, s)) Q) := by simp only [ex, wo_toO]
theorem wx_asg {t : Tg} {e : E} : Wo (ex P tw th (.asg t e) ρ) s Q = Wp (ev P tw th e ρ) s (ToOK ρ (fun x => toO ρ (M.calm (asgT P tw th t x ρ)) fun ρ' s => some (.nx ρ', s)) Q) := by simp only [ex, wo_toO]
theorem wx_aug {o : B2} {i : Nat} {e : E} : Wo (ex P tw th (.aug o i e) ρ) s Q = Wp (M.of (ρ[i]?.join)) s (ToOK ρ (fun x => toO ρ (ev P tw th e ρ) fun y => toO ρ (M.op (augW o x y)) fun z s => some (.nx (setE ρ i z), s)) Q) := by simp only [ex, wo_toO]
theorem wx_augF {o : B2} {a : E} {f : Nat} {e : E} : Wo (ex P tw th (.augF o a f e) ρ) s Q = Wp (ev P tw th a ρ) s (ToOK ρ (fun u => toO ρ (M.op (fldW P u f)) fun x => toO ρ (ev P tw th e ρ) fun y => toO ρ (M.op (augW o x y)) fun z => toO ρ (M.op (stF P u f z)) fun _ s => some (.nx ρ, s)) Q) := by simp only [ex, wo_toO]
theorem wx_augS {o : B2} {a i : E} {e : E} : Wo (ex P tw th (.augS o a i e) ρ) s Q = Wp (ev P tw th a ρ) s (ToOK ρ (fun u => toO ρ (ev P tw th i ρ) fun j => toO ρ (M.op (idxW u j)) fun x => toO ρ (ev P tw th e ρ) fun y => toO ρ (M.op (augW o x y)) fun z => toO ρ (M.op (stS u j z)) fun _ s => some (.nx ρ, s)) Q) := by simp only [ex, wo_toO]
theorem wx_ret {e : E} : Wo (ex P tw th (.ret e) ρ) s Q = Wp (ev P tw th e ρ) s (ToOK ρ (fun x s => some (.rt x, s)) Q) := by simp only [ex, wo_toO]
theorem wx_ret0 : Wo (ex P tw th .ret0 ρ) s Q = Q (.rt .non) s := by simp only [ex]; rfl
theorem wx_iff {c : E} {a b : Ss} : Wo (ex P tw th (.iff c a b) ρ) s Q = Wp (ev P tw th c ρ) s (BindK M.tru (ToOK ρ (fun t => if t then exs P tw th a ρ else exs P tw th b ρ) Q)) := by simp only [ex, wo_toO, wp_bind]
/-- a for's turn -/
def forB (P : Pg) (tw : List F) (th : Option (M W)) (t : Tg) (a : Ss) : W → Env → MO := fun x ρ => toO ρ (M.calm (asgT P tw th t x ρ)) fun ρ' => exs P tw th a ρ'
theorem wx_forr {t : Tg} {it : It} {a : Ss} : Wo (ex P tw th (.forr t it a) ρ) s Q = Wp (evi P tw th it ρ) s (ToOK ρ (fun src => turns (forB P tw th t a) src.grd src.items ρ) Q) := by (simp only [ex, wo_toO]) <;> rfl
theorem wx_forB {t : Tg} {a : Ss} {x : W} : Wo (forB P tw th t a x ρ) s Q = Wp (asgT P tw th t x ρ) s (CalmK (ToOK ρ (fun ρ' => exs P tw th a ρ') Q)) := by unfold forB; rw [wo_toO, wp_calm]
def whilT (P : Pg) (tw : List F) (th : Option (M W)) (c : E) : Env → M Bool := fun ρ => M.bind (ev P tw th c ρ) M.tru
def whilB (P : Pg) (tw : List F) (th : Option (M W)) (a : Ss) : Env → MO := fun ρ => exs P tw th a ρ
theorem wx_whil {n : Nat} {c : E} {a : Ss} : Wo (ex P tw th (.whil n c a) ρ) s Q = Wo (whiles (whilT P tw th c) (whilB P tw th a) n ρ) s Q := by simp only [ex]; rfl
theorem wx_whilT {c : E} {Q : KM Bool} : Wp (whilT P tw th c ρ) s Q = Wp (ev P tw th c ρ) s (BindK M.tru Q) := by unfold whilT; rw [wp_bind]
theorem wx_whilB {a : Ss} : Wo (whilB P tw th a ρ) s Q = Wo (exs P tw th a ρ) s Q := rfl
theorem wx_tryy {a : Ss} {h : Hs} : Wo (ex P tw th (.tryy a h) ρ) s Q = Wo (exs P tw th a ρ) s (TryK P h Q) := by
  simp only [ex]
  unfold Wo
  show (match (match exs P tw th a ρ s with
    | some (.ex e ρ', s') => caught P e ρ' h s'
    | r => r) with
    | some (x, s') => Q x s'
    | none => False) = _
  cases e : exs P tw th a ρ s with
  | none => rfl
  | some p =>
    obtain ⟨r, s'⟩ := p
    cases r <;> rfl
def delM (ρ : Env) (u j : W) : MO := fun s => match delW u j s with
    | some s' => some (.nx ρ, s')
    | none => none
theorem wx_del {o i : E} : Wo (ex P tw th (.del o i) ρ) s Q = Wp (ev P tw th o ρ) s (ToOK ρ (fun u => toO ρ (ev P tw th i ρ) fun j => delM ρ u j) Q) := by (simp only [ex, wo_toO]) <;> rfl
def Wd (r : Option Sto) (ρ : Env) (Q : KO) : Prop := match r with
    | some s' => Q (.nx ρ) s'
    | none => False
theorem wo_delM {u j : W} : Wo (delM ρ u j) s Q = Wd (delW u j s) ρ Q := by
  unfold Wo delM Wd
  cases delW u j s <;> rfl
theorem wd_some {s' : Sto} : Wd (some s') ρ Q = Q (.nx ρ) s' := rfl
theorem wx_rais {c : Nat} {e : E} (h : P.xfl c = none) : Wo (ex P tw th (.rais c e) ρ) s Q = Wp (ev P tw th e ρ) s (ToOK ρ (fun x s => some (.ex ⟨c, none⟩ ρ, s)) Q) := by simp only [ex, wo_toO, h]
theorem wx_raisF {c f : Nat} {e : E} (h : P.xfl c = some f) : Wo (ex P tw th (.rais c e) ρ) s Q = Wp (ev P tw th e ρ) s (ToOK ρ (fun x s => some (.ex ⟨c, some (f, x)⟩ ρ, s)) Q) := by simp only [ex, wo_toO, h]
theorem wx_brk : Wo (ex P tw th .brk ρ) s Q = Q (.bk ρ) s := by simp only [ex]; rfl
theorem wx_cnt : Wo (ex P tw th .cnt ρ) s Q = Q (.ct ρ) s := by simp only [ex]; rfl
theorem wx_pass : Wo (ex P tw th .pass ρ) s Q = Q (.nx ρ) s := by simp only [ex]; rfl
theorem wx_lkd {i : Nat} {f : Option Nat} {a : S} : Wo (ex P tw th (.lkd i f a) ρ) s Q = Wo (MO.lock ρ i f (ex P tw th a ρ)) s Q := by simp only [ex]
theorem wxs_nil : Wo (exs P tw th .nil ρ) s Q = Q (.nx ρ) s := by simp only [exs]; rfl
theorem wxs_cons {a : S} {r : Ss} : Wo (exs P tw th (.cons a r) ρ) s Q = Wo (ex P tw th a ρ) s (SeqK (fun ρ' => exs P tw th r ρ') Q) := by simp only [exs, wo_seq]
/-! locks -/
theorem wp_lock {α : Type} {i : Nat} {f : Option Nat} {m : M α} {Q : KM α} {n : Nat} {kvs : List (Ky × W)} (h : lkN ρ i f s = some (n, false, kvs)) : Wp (M.lock ρ i f m) s Q = Wp m (s.set n (.dct true kvs)) (LockK n Q) := by
  unfold Wp Wr M.lock
  rw [h]
  simp only
  cases e : m (s.set n (.dct true kvs)) with
  | none => rfl
  | some p =>
    obtain ⟨r, s'⟩ := p
    cases r with
    | error e => rfl
    | ok a =>
      simp only [LockK]
      cases unlk n s' <;> rfl
theorem wo_lock {i : Nat} {f : Option Nat} {m : MO} {n : Nat} {kvs : List (Ky × W)} (h : lkN ρ i f s = some (n, false, kvs)) : Wo (MO.lock ρ i f m) s Q = Wo m (s.set n (.dct true kvs)) (LockO n Q) := by
  unfold Wo MO.lock
  rw [h]
  simp only
  cases e : m (s.set n (.dct true kvs)) with
  | none => rfl
  | some p =>
    obtain ⟨r, s'⟩ := p
    cases r with
    | ex e ρ => rfl
    | _ =>
      simp only [LockO]
      cases unlk n s' <;> rfl
/-! defs -/
theorem wp_run {f : Nat} {fn : Fn} {xs : List W} {Q : KM W} (h : P.fns f = some fn) (hl : xs.length = fn.pars) : Wp (run P tw f xs none) s Q = Wo (exs P tw none fn.body (xs.map some ++ List.replicate (fn.slots - xs.length) none)) s (RetK false fn.frz Q) := by
  unfold Wp Wr Wo run
  rw [h]
  simp only [Option.isSome_none, Bool.false_eq_true, if_false, hl, if_true]
  cases e : exs P tw none fn.body (xs.map some ++ List.replicate (fn.slots - fn.pars) none) s with
  | none => rfl
  | some p =>
    obtain ⟨r, s'⟩ := p
    cases r with
    | rt w =>
      simp only [RetK]
      cases fn.frz
      · simp
      · simp only [if_true]; rfl
    | _ => rfl
theorem wp_runT {f : Nat} {fn : Fn} {m : M W} {Q : KM W} (h : P.fns f = some fn) : Wp (run P tw f [] (some m)) s Q = Wo (exs P tw (some m) fn.body (List.replicate fn.slots none)) s (RetK true fn.frz Q) := by
  unfold Wp Wr Wo run
  rw [h]
  simp only [Option.isSome_some, if_true, List.length_nil, List.map_nil, List.nil_append, Nat.sub_zero]
  cases e : exs P tw (some m) fn.body (List.replicate fn.slots none) s with
  | none => rfl
  | some p =>
    obtain ⟨r, s'⟩ := p
    cases r with
    | rt w =>
      simp only [RetK]
      cases fn.frz
      · simp
      · simp only [if_true]; rfl
    | _ => rfl
theorem wp_make {f : F} {c : Nat} {xs : List W} {Q : KM W} : Wp (M.make P f c xs) s Q = Wp (f (P.ini c) (.ref s.nxt :: xs) none) (s.new (.ins c [])) (MakeK (P.frz c) s.nxt Q) := by
  unfold M.make Wp Wr M.bind
  simp only
  cases e : f (P.ini c) (.ref s.nxt :: xs) none (s.new (.ins c [])) with
  | none => rfl
  | some p =>
    obtain ⟨r, s'⟩ := p
    cases r with
    | error e => rfl
    | ok v =>
      cases v <;> first | rfl | skip
      simp only [MakeK]
      cases P.frz c
      · simp; rfl
      · simp only [if_true]; rfl
theorem at0 {k : Nat} : atT (tower P (k + 1)) 0 = run P (tower P k) := rfl
theorem at1 {k : Nat} : atT (tower P (k + 2)) 1 = run P (tower P k) := rfl
theorem dr2 {k : Nat} : (tower P (k + 2)).drop 2 = tower P k := rfl
/-! parts of a text -/
def Ss.drop : Nat → Ss → Ss
  | 0, a => a
  | n + 1, .cons _ r => Ss.drop n r
  | _ + 1, .nil => .nil
def Ss.get : Nat → Ss → S
  | 0, .cons a _ => a
  | n + 1, .cons _ r => Ss.get n r
  | _, .nil => .pass
def S.body : S → Ss
  | .forr _ _ a => a
  | .whil _ _ a => a
  | .iff _ a _ => a
  | .tryy a _ => a
  | .lkd _ _ a => S.body a
  | _ => .nil
def S.els : S → Ss
  | .iff _ _ b => b
  | _ => .nil
/-! loops -/
theorem wp_gather {β : Type} {g : W → M (Option W)} {ok : Sto → Bool} {inj : β → W} {h : β → Option W} : ∀ {xs : List β} {Q : KM (List W)}, (∀ x ∈ xs, Wp (g (inj x)) s (fun r s' => r = .ok (h x) ∧ s' = s)) → ok s = true → Q (.ok (xs.filterMap h)) s → Wp (M.gather g ok (xs.map inj)) s Q
  | [], Q, _, _, q => q
  | x :: xs, Q, hg, ho, q => by
    simp only [List.map_cons, M.gather, wp_bind]
    refine (hg x (by simp)).mono ?_
    rintro r s' ⟨hr, hs⟩
    rw [hr, hs]
    simp only [bindK_ok, wp_bind, wp_get, ho, if_true]
    refine wp_gather (fun y hy => hg y (by simp [hy])) ho ?_
    simp only [bindK_ok, wp_ret]
    cases e : h x with
    | none => simpa [consO, List.filterMap_cons, e] using q
    | some y => simpa [consO, List.filterMap_cons, e] using q
theorem turns_nil {body : W → Env → MO} {ok : Sto → Bool} : Wo (turns body ok [] ρ) s Q = Q (.nx ρ) s := rfl
theorem turns_cons {body : W → Env → MO} {ok : Sto → Bool} {x : W} {r : List W} : Wo (turns body ok (x :: r) ρ) s Q = Wo (body x ρ) s (TurnK ok (fun ρ s => Wo (turns body ok r ρ) s Q) Q) := by
  unfold Wo
  simp only [turns]
  rcases e : body x ρ s with _ | ⟨o, s'⟩
  · rfl
  · cases o with
    | nx ρ' => cases h : ok s' <;> simp [TurnK, h, Wo]
    | ct ρ' => cases h : ok s' <;> simp [TurnK, h, Wo]
    | _ => rfl
theorem gather_nil {g : W → M (Option W)} {ok : Sto → Bool} {Q : KM (List W)} : Wp (M.gather g ok []) s Q = Q (.ok []) s := rfl
theorem gather_cons {g : W → M (Option W)} {ok : Sto → Bool} {x : W} {r : List W} {Q : KM (List W)} : Wp (M.gather g ok (x :: r)) s Q = Wp (g x) s (BindK (fun o => M.bind M.get fun s => if ok s then M.bind (M.gather g ok r) fun ys => M.ret (consO o ys) else M.no) Q) := by
  simp only [M.gather, wp_bind]
/-- a for's turns, what stands said by what is left -/
theorem wo_turns {body : W → Env → MO} {ok : Sto → Bool} (I : List W → Env → Sto → Prop) (step : ∀ x r ρ s, I (x :: r) ρ s → Wo (body x ρ) s (TurnK ok (I r) Q)) (fin : ∀ ρ s, I [] ρ s → Q (.nx ρ) s) : ∀ {items : List W} {ρ : Env} {s : Sto}, I items ρ s → Wo (turns body ok items ρ) s Q
  | [], ρ, s, h => fin ρ s h
  | x :: r, ρ, s, h => by
    have q := step x r ρ s h
    unfold Wo at q ⊢
    simp only [turns]
    cases e : body x ρ s with
    | none => rw [e] at q; exact q.elim
    | some p =>
      obtain ⟨o, s'⟩ := p
      rw [e] at q
      cases o with
      | nx ρ' =>
        simp only [TurnK] at q
        simp only [q.1, if_true]
        exact wo_turns I step fin q.2
      | ct ρ' =>
        simp only [TurnK] at q
        simp only [q.1, if_true]
        exact wo_turns I step fin q.2
      | bk ρ' => exact q
      | rt w => exact q
      | ex e ρ' => exact q
/-- a for over a range, what stands said by how many turns were made -/
theorem wo_range {body : W → Env → MO} {ok : Sto → Bool} (I : Nat → Env → Sto → Prop) {lo : Int} {n : Nat} (step : ∀ i ρ s, i < n → I i ρ s → Wo (body (.int (lo + i)) ρ) s (TurnK ok (I (i + 1)) Q)) (fin : ∀ ρ s, I n ρ s → Q (.nx ρ) s) {ρ : Env} {s : Sto} (h : I 0 ρ s) : Wo (turns body ok (rangeL lo n) ρ) s Q := by
  refine wo_turns (fun l ρ s => ∃ i, i ≤ n ∧ l = rangeL (lo + i) (n - i) ∧ I i ρ s) ?_ ?_ ⟨0, by omega, by simp, h⟩
  · rintro x r ρ s ⟨i, hi, hl, hI⟩
    cases e : n - i with
    | zero => rw [e] at hl; cases hl
    | succ m =>
      rw [e] at hl
      simp only [rangeL, List.cons.injEq] at hl
      obtain ⟨rfl, rfl⟩ := hl
      refine (step i ρ s (by omega) hI).mono ?_
      intro o s' q
      have e2 : rangeL (lo + ↑i + 1) m = rangeL (lo + ((i + 1 : Nat) : Int)) (n - (i + 1)) := by
        rw [show n - (i + 1) = m by omega]
        congr 1
        omega
      cases o <;> first | exact q | exact ⟨q.1, i + 1, by omega, e2, q.2⟩
  · rintro ρ s ⟨i, hi, hl, hI⟩
    cases e : n - i with
    | zero =>
      have : i = n := by omega
      subst this
      exact fin ρ s hI
    | succ m => rw [e] at hl; cases hl
theorem wo_whiles {test : Env → M Bool} {body : Env → MO} (I : Nat → Env → Sto → Prop) (step : ∀ n ρ s, I (n + 1) ρ s → Wp (test ρ) s (fun r s' => match r with
    | .ok true => Wo (body ρ) s' (WhilK (I n) Q)
    | .ok false => Q (.nx ρ) s'
    | .error e => Q (.ex e ρ) s')) (zero : ∀ ρ s, ¬ I 0 ρ s) : ∀ {n : Nat} {ρ : Env} {s : Sto}, I n ρ s → Wo (whiles test body n ρ) s Q
  | 0, ρ, s, h => (zero ρ s h).elim
  | n + 1, ρ, s, h => by
    have q := step n ρ s h
    simp only [whiles, wo_toO]
    refine q.mono ?_
    intro r s' q
    match r, q with
    | .error e, q => exact q
    | .ok false, q => exact q
    | .ok true, q =>
      show Wo _ s' Q
      unfold Wo at q ⊢
      simp only [if_true]
      cases e : body ρ s' with
      | none => rw [e] at q; exact q.elim
      | some p =>
        obtain ⟨o, s2⟩ := p
        rw [e] at q
        cases o with
        | nx ρ' => exact wo_whiles I step zero q
        | ct ρ' => exact wo_whiles I step zero q
        | bk ρ' => exact q
        | rt w => exact q
        | ex e ρ' => exact q
end
end Mn

end

section
set_option Elab.async false
set_option linter.all false
set_option maxRecDepth 100000
/-! Mini: what the operations do, case by case. -/
namespace Mn
section
variable {s : Sto}
theorem b2_addI {i j : Int} : b2W .add (.int i) (.int j) s = some (.int (i + j), s) := rfl
theorem b2_subI {i j : Int} : b2W .sub (.int i) (.int j) s = some (.int (i - j), s) := rfl
theorem b2_mulI {i j : Int} : b2W .mul (.int i) (.int j) s = if (smallI i || smallI j) = true then some (.int (i * j), s) else none := rfl
theorem b2_fdivI {i j : Int} : b2W .fdiv (.int i) (.int j) s = if 0 < j ∧ j < 2 ^ 64 then some (.int (i / j), s) else none := rfl
theorem b2_mdI {i j : Int} : b2W .md (.int i) (.int j) s = if 0 < j then some (.int (i % j), s) else none := rfl
theorem b2_powI {i j : Int} : b2W .pow (.int i) (.int j) s = if 0 ≤ j ∧ j ≤ 1000 ∧ i.natAbs < 2 ^ 64 then some (.int (i ^ j.toNat), s) else none := rfl
theorem smallI_l {i j : Int} (h : smallI i = true) : (smallI i || smallI j) = true := by simp [h]
theorem smallI_r {i j : Int} (h : smallI j = true) : (smallI i || smallI j) = true := by simp [h]
theorem smallI_eq {i : Int} : smallI i = (decide (-18446744073709551616 < i) && decide (i < 18446744073709551616)) := rfl
theorem smallR_eq {i : Int} : smallR i = (decide (-4611686018427387904 ≤ i) && decide (i < 4611686018427387904)) := rfl
theorem wp_iteI {α : Type} {c : Prop} [Decidable c] {a b : M α} {Q : KM α} (ha : c → Wp a s Q) (hb : ¬ c → Wp b s Q) : Wp (if c then a else b) s Q := by
  by_cases h : c
  · rw [if_pos h]; exact ha h
  · rw [if_neg h]; exact hb h
theorem wo_iteI {c : Prop} [Decidable c] {a b : MO} {Q : KO} (ha : c → Wo a s Q) (hb : ¬ c → Wo b s Q) : Wo (if c then a else b) s Q := by
  by_cases h : c
  · rw [if_pos h]; exact ha h
  · rw [if_neg h]; exact hb h
theorem b2_addT {a b : List W} : b2W .add (.tup a) (.tup b) s = if a.length + b.length ≤ line then some (.tup (a ++ b), s) else none := rfl
theorem b2_addS {a b : List Nat} : b2W .add (.str a) (.str b) s = if a.length + b.length ≤ line then some (.str (a ++ b), s) else none := rfl
theorem b2_addL {a b : List W} : b2W .add (.lst a) (.lst b) s = if a.length + b.length ≤ line then some (.lst (a ++ b), s) else none := rfl
theorem c2_eq {x y : W} : c2W .eq x y s = Op1.of ((eqC s x y).map .bl) s := by
  unfold c2W
  cases x <;> cases y <;> rfl
theorem c2_ne {x y : W} : c2W .ne x y s = Op1.of (((eqC s x y).map not).map .bl) s := by
  unfold c2W
  cases x <;> cases y <;> rfl
theorem c2_lt {i j : Int} : c2W .lt (.int i) (.int j) s = some (.bl (decide (i < j)), s) := rfl
theorem c2_le {i j : Int} : c2W .le (.int i) (.int j) s = some (.bl (decide (i ≤ j)), s) := rfl
theorem c2_gt {i j : Int} : c2W .gt (.int i) (.int j) s = some (.bl (decide (j < i)), s) := rfl
theorem c2_ge {i j : Int} : c2W .ge (.int i) (.int j) s = some (.bl (decide (j ≤ i)), s) := rfl
theorem c2_in {x y : W} : c2W .isin x y s = Op1.of ((inW s x y).map .bl) s := by
  unfold c2W
  cases x <;> cases y <;> rfl
theorem c2_nin {x y : W} : c2W .notin x y s = Op1.of (((inW s x y).map not).map .bl) s := by
  unfold c2W
  cases x <;> cases y <;> rfl
theorem eqc_ii {i j : Int} : eqC s (.int i) (.int j) = some (decide (i = j)) := by
  simp [eqC, datOf, dataW, eqW]
theorem eqc_ss {a b : List Nat} : eqC s (.str a) (.str b) = some (decide (a = b)) := rfl
theorem tru_b {b : Bool} : truM (.bl b) s = some (b, s) := rfl
theorem tru_i {i : Int} : truM (.int i) s = some (i != 0, s) := rfl
theorem mtru {w : W} {Q : KM Bool} : Wp (M.tru w) s Q = W1 (truM w s) Q := by unfold M.tru; rw [wp_op]
theorem biW_int {i : Int} : biW .int [.int i] s = some (.int i, s) := rfl
theorem biW_intb {b : Bool} : biW .int [.bl b] s = some (.int (if b then 1 else 0), s) := rfl
theorem biW_abs {i : Int} : biW .abs [.int i] s = some (.int (if i < 0 then -i else i), s) := rfl
theorem biW_min2 {i j : Int} : biW .min2 [.int i, .int j] s = some (.int (if j < i then j else i), s) := rfl
theorem biW_max2 {i j : Int} : biW .max2 [.int i, .int j] s = some (.int (if i < j then j else i), s) := rfl
theorem set_get (n m : Nat) (o : SO) : (s.set n o).get m = if m = n then some o else s.get m := rfl
theorem new_get (m : Nat) (o : SO) : (s.new o).get m = if m = s.nxt then some o else s.get m := rfl
theorem set_nxt (n : Nat) (o : SO) : (s.set n o).nxt = s.nxt := rfl
theorem new_nxt (o : SO) : (s.new o).nxt = s.nxt + 1 := rfl
theorem set_set (n : Nat) (o u : SO) : (s.set n o).set n u = s.set n u := by
  unfold Sto.set
  congr 1
  funext m
  by_cases h : m = n <;> simp [h]
theorem set_self {n : Nat} {o : SO} (h : s.get n = some o) : s.set n o = s := by
  unfold Sto.set
  obtain ⟨x, g⟩ := s
  congr 1
  funext m
  by_cases e : m = n
  · subst e
    simp only [if_true]
    exact h.symm
  · simp [e]
/-! what stands at a place -/
def idxR (o : Option SO) (y : W) (s : Sto) : Option (W × Sto) := match o with
  | some (.lst xs) => (match y with
    | .int i => Op1.of (L2.atI xs i) s
    | _ => none)
  | some (.dct lk kvs) => if (lk && kvs.isEmpty) = true then none else Op1.of ((toKy y).bind fun k => if kyOk k kvs = true then getK k kvs else none) s
  | _ => none
theorem idx_ref {n : Nat} {y : W} : idxW (.ref n) y s = idxR (s.get n) y s := by
  unfold idxW idxR
  rcases e : s.get n with _ | (_ | ⟨b, kvs⟩ | _)
  · cases y <;> simp [dctOf, seqOf, lstOf, e, Op1.of]
  · cases y <;> simp [dctOf, seqOf, lstOf, e, Op1.of]
  · by_cases h : (b && kvs.isEmpty) = true
    · cases y <;> simp only [dctOf, seqOf, lstOf, e, h, if_true, Op1.of, Option.bind_none]
    · cases y <;> simp only [dctOf, e, h] <;> rfl
  · cases y <;> simp [dctOf, seqOf, lstOf, e, Op1.of]
theorem idxR_lst {xs : List W} {i : Int} : idxR (some (.lst xs)) (.int i) s = Op1.of (L2.atI xs i) s := rfl
theorem idxR_dct {kvs : List (Ky × W)} {y : W} : idxR (some (.dct false kvs)) y s = Op1.of ((toKy y).bind fun k => if kyOk k kvs = true then getK k kvs else none) s := rfl
theorem idxR_dctT {kvs : List (Ky × W)} {y : W} (h : kvs.isEmpty = false) : idxR (some (.dct true kvs)) y s = Op1.of ((toKy y).bind fun k => if kyOk k kvs = true then getK k kvs else none) s := by
  simp [idxR, h]
theorem idx_lst {xs : List W} {i : Int} : idxW (.lst xs) (.int i) s = Op1.of (L2.atI xs i) s := rfl
theorem idx_tup {xs : List W} {i : Int} : idxW (.tup xs) (.int i) s = Op1.of (L2.atI xs i) s := rfl
theorem idx_str {t : List Nat} {i : Int} : idxW (.str t) (.int i) s = if t.length ≤ line then Op1.of ((L2.atI t i).map fun c => .str [c]) s else none := rfl
theorem idx_dct {kvs : List (Ky × W)} {y : W} : idxW (.dct kvs) y s = Op1.of ((toKy y).bind fun k => if kyOk k kvs = true then getK k kvs else none) s := rfl
/-- .. by a place that is known -/
theorem atI_0 {α : Type} {x : α} {r : List α} : L2.atI (x :: r) 0 = some x := by
  have h : L2.ixN (r.length + 1) 0 = some 0 := by
    unfold L2.ixN
    rw [if_pos (by omega), if_pos (by omega)]
    rfl
  show (L2.ixN (r.length + 1) 0).bind _ = _
  rw [h]
  rfl
theorem atI_1 {α : Type} {x y : α} {r : List α} : L2.atI (x :: y :: r) 1 = some y := by
  have h : L2.ixN (r.length + 2) 1 = some 1 := by
    unfold L2.ixN
    rw [if_pos (by omega), if_pos (by omega)]
    rfl
  show (L2.ixN (r.length + 2) 1).bind _ = _
  rw [h]
  rfl
theorem atI_2 {α : Type} {x y z : α} {r : List α} : L2.atI (x :: y :: z :: r) 2 = some z := by
  have h : L2.ixN (r.length + 3) 2 = some 2 := by
    unfold L2.ixN
    rw [if_pos (by omega), if_pos (by omega)]
    rfl
  show (L2.ixN (r.length + 3) 2).bind _ = _
  rw [h]
  rfl
theorem atI_3 {α : Type} {x y z w : α} {r : List α} : L2.atI (x :: y :: z :: w :: r) 3 = some w := by
  have h : L2.ixN (r.length + 4) 3 = some 3 := by
    unfold L2.ixN
    rw [if_pos (by omega), if_pos (by omega)]
    rfl
  show (L2.ixN (r.length + 4) 3).bind _ = _
  rw [h]
  rfl
theorem atI_ge {α : Type} {xs : List α} {i : Int} (h : 0 ≤ i) : L2.atI xs i = xs[i.toNat]? := by
  show (L2.ixN xs.length i).bind (fun j => xs[j]?) = _
  unfold L2.ixN
  rw [if_pos h]
  by_cases h2 : i < xs.length
  · rw [if_pos h2]; rfl
  · rw [if_neg h2]
    show none = _
    rw [List.getElem?_eq_none (by omega)]
theorem atI_head {α : Type} {xs : List α} : L2.atI xs 0 = xs.head? := by
  rw [atI_ge (by omega)]
  cases xs <;> rfl
theorem atI_get {α : Type} {xs : List α} {i : Nat} : L2.atI xs (i : Int) = xs[i]? := by
  rw [atI_ge (by omega)]
  rfl
def fldR (P : Pg) (o : Option SO) (f : Nat) (s : Sto) : Option (W × Sto) := match o with
  | some (.ins c fs) => if P.nat c f = true then Op1.of (getF f fs) s else none
  | _ => none
theorem fld_ref {P : Pg} {n f : Nat} : fldW P (.ref n) f s = fldR P (s.get n) f s := by
  unfold fldW fldR insOf Op1.of
  dsimp only
  generalize s.get n = o
  rcases o with _ | (_ | ⟨_ | _, _⟩ | ⟨c, fs⟩)
  · rfl
  · rfl
  · rfl
  · rfl
  · simp only [Option.bind_some]
    by_cases h : P.nat c f = true <;> simp [h]
theorem fldR_ins {P : Pg} {c f : Nat} {fs : List (Nat × W)} (h : P.nat c f = true) : fldR P (some (.ins c fs)) f s = Op1.of (getF f fs) s := by
  simp [fldR, h]
theorem fld_obj {P : Pg} {c f : Nat} {fs : List (Nat × W)} (h : P.nat c f = true) : fldW P (.obj c fs) f s = Op1.of (getF f fs) s := by
  simp [fldW, insOf, h]
theorem getF_cons {f g : Nat} {x : W} {r : List (Nat × W)} : getF f ((g, x) :: r) = if g = f then some x else getF f r := rfl
theorem getF_nil {f : Nat} : getF f [] = none := rfl
theorem putF_cons {f g : Nat} {x v : W} {r : List (Nat × W)} : putF f v ((g, x) :: r) = if g = f then (g, v) :: r else (g, x) :: putF f v r := rfl
theorem putF_nil {f : Nat} {v : W} : putF f v [] = [(f, v)] := rfl
def stFR (P : Pg) (o : Option SO) (n f : Nat) (v : W) (s : Sto) : Option (Unit × Sto) := match o with
  | some (.ins c fs) => if P.nat c f = true ∧ fs.length < 900 then some ((), s.set n (.ins c (putF f v fs))) else none
  | _ => none
theorem stF_ref {P : Pg} {n f : Nat} {v : W} : stF P (.ref n) f v s = stFR P (s.get n) n f v s := rfl
theorem stFR_ins {P : Pg} {n c f : Nat} {v : W} {fs : List (Nat × W)} (h : P.nat c f = true) : stFR P (some (.ins c fs)) n f v s = if fs.length < 900 then some ((), s.set n (.ins c (putF f v fs))) else none := by
  simp [stFR, h]
def methR (P : Pg) (m : Nat) (o : Option SO) : Option Nat := match o with
  | some (.ins c fs) => (match getF m fs with
    | none => P.mth c m
    | some _ => none)
  | _ => none
theorem meth_ref {P : Pg} {m n : Nat} : methOf P m (insOf s (.ref n)) = methR P m (s.get n) := by
  unfold methOf methR insOf
  dsimp only
  generalize s.get n = o
  rcases o with _ | (_ | ⟨_ | _, _⟩ | _) <;> rfl
theorem methR_ins {P : Pg} {c m : Nat} {fs : List (Nat × W)} (h : getF m fs = none) : methR P m (some (.ins c fs)) = P.mth c m := by simp [methR, h]
theorem meth_obj {P : Pg} {c m : Nat} {fs : List (Nat × W)} (h : getF m fs = none) : methOf P m (insOf s (.obj c fs)) = P.mth c m := by simp [methOf, insOf, h]
/-! stores of items -/
def stSR (o : Option SO) (n : Nat) (i v : W) (s : Sto) : Option (Unit × Sto) := match o, i with
  | some (.lst xs), .int k => (match (if 0 ≤ k then some k.toNat else if 0 ≤ k + xs.length then some (k + xs.length).toNat else none) with
    | some j => if j < xs.length then some ((), s.set n (.lst (xs.set j v))) else none
    | none => none)
  | some (.dct false kvs), i => (match toKy i with
    | some k => if kyOk k kvs = true ∧ kvs.length < line then some ((), s.set n (.dct false (putK k v kvs))) else none
    | none => none)
  | _, _ => none
theorem stS_ref {n : Nat} {i v : W} : stS (.ref n) i v s = stSR (s.get n) n i v s := by
  unfold stS stSR
  dsimp only <;> (generalize s.get n = o; rcases o with _ | (_ | ⟨_ | _, _⟩ | _) <;> cases i <;> rfl)
theorem stSR_lst {n : Nat} {xs : List W} {k : Int} {v : W} (h : 0 ≤ k) : stSR (some (.lst xs)) n (.int k) v s = if k.toNat < xs.length then some ((), s.set n (.lst (xs.set k.toNat v))) else none := by
  simp [stSR, h]
theorem stSR_dct {n : Nat} {kvs : List (Ky × W)} {i v : W} : stSR (some (.dct false kvs)) n i v s = (toKy i).bind fun k => if kyOk k kvs = true ∧ kvs.length < line then some ((), s.set n (.dct false (putK k v kvs))) else none := by
  have e : stSR (some (.dct false kvs)) n i v s = (match toKy i with
    | some k => if kyOk k kvs = true ∧ kvs.length < line then some ((), s.set n (.dct false (putK k v kvs))) else none
    | none => none) := by cases i <;> rfl
  rw [e]
  cases toKy i <;> rfl
theorem toKy_i {i : Int} : toKy (.int i) = some (.one (.int i)) := rfl
theorem toKy_s {t : List Nat} : toKy (.str t) = some (.one (.str t)) := rfl
theorem toKy_si {t : List Nat} {i : Int} : toKy (.tup [.str t, .int i]) = some (.many [.str t, .int i]) := rfl
theorem toKy_ss {t u : List Nat} : toKy (.tup [.str t, .str u]) = some (.many [.str t, .str u]) := rfl
theorem toKy_ii {i j : Int} : toKy (.tup [.int i, .int j]) = some (.many [.int i, .int j]) := rfl
/-! in -/
def inR (s : Sto) (x : W) (o : Option SO) : Option Bool := match o with
  | some (.dct lk kvs) => if (lk && kvs.isEmpty) = true then none else (toKy x).bind fun k => if kyOk k kvs = true then some (getK k kvs).isSome else none
  | some (.lst ys) => (match datOf s x with
    | some x' => if dataL 48 ys then some (ys.any fun y => eqW y x') else none
    | none => none)
  | _ => none
theorem in_ref {n : Nat} {x : W} : inW s x (.ref n) = inR s x (s.get n) := by
  unfold inW inR
  simp only [dctOf]
  cases e : s.get n with
  | none => simp [seqOf, lstOf, e]
  | some o =>
    cases o with
    | lst ys =>
      simp only [seqOf, lstOf, e]
      cases datOf s x <;> rfl
    | dct lk kvs =>
      simp only
      by_cases h : (lk && kvs.isEmpty) = true
      · simp [h, seqOf, lstOf, e]
      · simp only [h]; rfl
    | ins c fs => simp [seqOf, lstOf, e]
theorem inR_dct {x : W} {kvs : List (Ky × W)} : inR s x (some (.dct false kvs)) = (toKy x).bind fun k => if kyOk k kvs = true then some (getK k kvs).isSome else none := by
  simp [inR]
theorem inR_dctT {x : W} {kvs : List (Ky × W)} (h : kvs.isEmpty = false) : inR s x (some (.dct true kvs)) = (toKy x).bind fun k => if kyOk k kvs = true then some (getK k kvs).isSome else none := by
  simp [inR, h]
theorem in_lst {x : W} {ys : List W} : inW s x (.lst ys) = (match datOf s x with
    | some x' => if dataL 48 ys then some (ys.any fun y => eqW y x') else none
    | none => none) := by
  unfold inW
  simp only [dctOf, seqOf, lstOf]
  cases datOf s x <;> rfl
theorem in_tup {x : W} {ys : List W} : inW s x (.tup ys) = (match datOf s x with
    | some x' => if dataL 48 ys then some (ys.any fun y => eqW y x') else none
    | none => none) := by
  unfold inW
  simp only [dctOf, seqOf, lstOf]
  cases datOf s x <;> rfl
theorem dat_i {i : Int} : datOf s (.int i) = some (.int i) := by simp [datOf, dataW]
theorem dat_non : datOf s .non = some .non := by simp [datOf, dataW]
theorem dat_b {b : Bool} : datOf s (.bl b) = some (.bl b) := by simp [datOf, dataW]
theorem dat_s {t : List Nat} (h : t.all (fun c => decide (c < 1114112)) = true) : datOf s (.str t) = some (.str t) := by simp [datOf, dataW, h]
theorem dat_w {w : W} (h : dataW 49 w = true) (hn : ∀ n, w ≠ .ref n) : datOf s w = some w := by
  cases w <;> first | (simp [datOf, h]; done) | exact absurd rfl (hn _)
theorem dataL_ints {d : Nat} : ∀ {l : List Int}, dataL d (l.map .int) = true
  | [] => by simp [dataL]
  | i :: l => by simp [dataL, dataW, dataL_ints]
theorem any_ints {i : Int} : ∀ {l : List Int}, ((l.map W.int).any fun y => eqW y (.int i)) = decide (i ∈ l)
  | [] => by simp
  | j :: l => by
    simp only [List.map_cons, List.any_cons, any_ints, eqW, List.mem_cons, Bool.decide_or]
    congr 1
    exact decide_eq_decide.mpr eq_comm
theorem in_ints {i : Int} {l : List Int} : inW s (.int i) (.lst (l.map .int)) = some (decide (i ∈ l)) := by
  rw [in_lst, dat_i]
  simp only [dataL_ints, if_true, any_ints]
theorem in_intsT {i : Int} {l : List Int} : inW s (.int i) (.tup (l.map .int)) = some (decide (i ∈ l)) := by
  rw [in_tup, dat_i]
  simp only [dataL_ints, if_true, any_ints]
/-! == -/
theorem eqc_dat {x y x' y' : W} (hx : datOf s x = some x') (hy : datOf s y = some y') : eqC s x y = some (eqW x' y') := by
  unfold eqC
  split
  · rename_i a b
    by_cases ha : a.all (fun c => decide (c < 1114112)) = true
    · rw [dat_s ha] at hx
      by_cases hb : b.all (fun c => decide (c < 1114112)) = true
      · rw [dat_s hb] at hy
        cases hx
        cases hy
        simp [eqW]
      · simp [datOf, dataW, hb] at hy
    · simp [datOf, dataW, ha] at hx
  · rw [hx, hy]
theorem eqL_ints : ∀ {l k : List Int}, eqL (l.map .int) (k.map .int) = decide (l = k)
  | [], [] => by simp [eqL]
  | [], _ :: _ => by simp [eqL]
  | _ :: _, [] => by simp [eqL]
  | i :: l, j :: k => by simp [eqL, eqW, eqL_ints]
theorem dat_ints {l : List Int} : datOf s (.lst (l.map .int)) = some (.lst (l.map .int)) := by simp [datOf, dataW, dataL_ints]
theorem dat_intsT {l : List Int} : datOf s (.tup (l.map .int)) = some (.tup (l.map .int)) := by simp [datOf, dataW, dataL_ints]
theorem eqc_ints {l k : List Int} : eqC s (.lst (l.map .int)) (.lst (k.map .int)) = some (decide (l = k)) := by
  rw [eqc_dat dat_ints dat_ints]
  simp [eqW, eqL_ints]
theorem eqc_intsT {l k : List Int} : eqC s (.tup (l.map .int)) (.tup (k.map .int)) = some (decide (l = k)) := by
  rw [eqc_dat dat_intsT dat_intsT]
  simp [eqW, eqL_ints]
theorem eqc_ints0 {l : List Int} : eqC s (.lst (l.map .int)) (.lst []) = some (decide (l = [])) := eqc_ints (k := [])
theorem eqc_intsT0 {l : List Int} : eqC s (.tup (l.map .int)) (.tup []) = some (decide (l = [])) := eqc_intsT (k := [])
theorem eqc_bb {a b : Bool} : eqC s (.bl a) (.bl b) = some (decide (a = b)) := by
  rw [eqc_dat dat_b dat_b]
  cases a <;> cases b <;> rfl
theorem eqc_is {i : Int} {t : List Nat} (h : t.all (fun c => decide (c < 1114112)) = true) : eqC s (.int i) (.str t) = some false := by
  rw [eqc_dat dat_i (dat_s h)]
  simp [eqW]
theorem eqc_si {i : Int} {t : List Nat} (h : t.all (fun c => decide (c < 1114112)) = true) : eqC s (.str t) (.int i) = some false := by
  rw [eqc_dat (dat_s h) dat_i]
  simp [eqW]
theorem eqc_ns {t : List Nat} (h : t.all (fun c => decide (c < 1114112)) = true) : eqC s .non (.str t) = some false := by
  rw [eqc_dat dat_non (dat_s h)]
  simp [eqW]
theorem eqc_sn {t : List Nat} (h : t.all (fun c => decide (c < 1114112)) = true) : eqC s (.str t) .non = some false := by
  rw [eqc_dat (dat_s h) dat_non]
  simp [eqW]
theorem eqc_nn : eqC s .non .non = some true := by
  rw [eqc_dat dat_non dat_non]
  simp [eqW]
theorem eqc_ni {i : Int} : eqC s .non (.int i) = some false := by
  rw [eqc_dat dat_non dat_i]
  simp [eqW]
theorem eqc_in {i : Int} : eqC s (.int i) .non = some false := by
  rw [eqc_dat dat_i dat_non]
  simp [eqW]
theorem eqc_nilL : eqC s (.lst []) (.lst []) = some true := by simpa using eqc_ints (s := s) (l := []) (k := [])
theorem eqc_nilT : eqC s (.tup []) (.tup []) = some true := by simpa using eqc_intsT (s := s) (l := []) (k := [])
/-! dicts by keys and items of a kind -/
def encD {κ ν : Type} (ke : κ → Ky) (ve : ν → W) (l : List (κ × ν)) : List (Ky × W) := l.map fun p => (ke p.1, ve p.2)
section
variable {κ ν : Type} [DecidableEq κ] {ke : κ → Ky} {ve : ν → W}
def lk (k : κ) : List (κ × ν) → Option ν
  | [] => none
  | (a, v) :: r => if a = k then some v else lk k r
def pt (k : κ) (v : ν) (l : List (κ × ν)) : List (κ × ν) := if (lk k l).isSome then l.map (fun p => if p.1 = k then (p.1, v) else p) else l ++ [(k, v)]
def dl (k : κ) (l : List (κ × ν)) : List (κ × ν) := l.filter fun p => decide (p.1 ≠ k)
theorem getK_enc (hi : ∀ a b, ke a = ke b → a = b) {k : κ} : ∀ {l : List (κ × ν)}, getK (ke k) (encD ke ve l) = (lk k l).map ve
  | [] => rfl
  | (a, v) :: r => by
    show (if ke a = ke k then some (ve v) else getK (ke k) (encD ke ve r)) = _
    by_cases h : a = k
    · subst h; simp [lk]
    · rw [if_neg (fun e => h (hi _ _ e)), getK_enc hi]
      simp [lk, h]
theorem hasK_enc (hi : ∀ a b, ke a = ke b → a = b) {k : κ} : ∀ {l : List (κ × ν)}, hasK (ke k) (encD ke ve l) = (lk k l).isSome
  | [] => rfl
  | (a, v) :: r => by
    show (decide (ke a = ke k) || hasK (ke k) (encD ke ve r)) = _
    rw [hasK_enc hi]
    by_cases h : a = k
    · subst h; simp [lk]
    · rw [decide_eq_false (fun e => h (hi _ _ e))]
      simp [lk, h]
theorem putK_enc (hi : ∀ a b, ke a = ke b → a = b) {k : κ} {v : ν} {l : List (κ × ν)} : putK (ke k) (ve v) (encD ke ve l) = encD ke ve (pt k v l) := by
  unfold putK pt
  rw [hasK_enc hi]
  by_cases h : (lk k l).isSome = true
  · simp only [h, if_true]
    unfold encD
    rw [List.map_map, List.map_map]
    apply List.map_congr_left
    intro p _
    simp only [Function.comp]
    by_cases e : p.1 = k
    · simp [e]
    · rw [if_neg (fun z => e (hi _ _ z)), if_neg e]
  · simp only [h]
    simp [encD]
theorem delK_enc (hi : ∀ a b, ke a = ke b → a = b) {k : κ} {l : List (κ × ν)} : delK (ke k) (encD ke ve l) = encD ke ve (dl k l) := by
  unfold delK dl encD
  rw [List.filter_map]
  congr 1
  apply List.filter_congr
  intro p _
  simp only [Function.comp]
  by_cases e : p.1 = k
  · simp [e]
  · have z : ¬ ke p.1 = ke k := fun z => e (hi _ _ z)
    simp [e, z]
theorem lk_some {k : κ} {v : ν} : ∀ {l : List (κ × ν)}, lk k l = some v → (k, v) ∈ l
  | [], h => by cases h
  | (a, u) :: r, h => by
    unfold lk at h
    by_cases e : a = k
    · subst e
      rw [if_pos rfl] at h
      cases h
      simp
    · rw [if_neg e] at h
      exact List.mem_cons_of_mem _ (lk_some h)
theorem lk_is {k : κ} : ∀ {l : List (κ × ν)}, (lk k l).isSome = true ↔ k ∈ l.map (·.1)
  | [] => by simp [lk]
  | (a, u) :: r => by
    unfold lk
    by_cases e : a = k
    · simp [e]
    · rw [if_neg e, lk_is]
      simp [Ne.symm e]
theorem lk_none {k : κ} {l : List (κ × ν)} : lk k l = none ↔ k ∉ l.map (·.1) := by
  rw [← lk_is]
  cases lk k l <;> simp
theorem lk_of {k : κ} {v : ν} : ∀ {l : List (κ × ν)}, (l.map (·.1)).Nodup → (k, v) ∈ l → lk k l = some v
  | [], _, h => by cases h
  | (a, u) :: r, n, h => by
    simp only [List.map_cons, List.nodup_cons] at n
    unfold lk
    by_cases e : a = k
    · subst e
      rw [if_pos rfl]
      rcases List.mem_cons.mp h with h | h
      · cases h; rfl
      · exact (n.1 (List.mem_map.mpr ⟨_, h, rfl⟩)).elim
    · rw [if_neg e]
      rcases List.mem_cons.mp h with h | h
      · cases h; exact (e rfl).elim
      · exact lk_of n.2 h
theorem keys_pt {k : κ} {v : ν} {l : List (κ × ν)} : (pt k v l).map (·.1) = if k ∈ l.map (·.1) then l.map (·.1) else l.map (·.1) ++ [k] := by
  unfold pt
  by_cases h : k ∈ l.map (·.1)
  · rw [if_pos h, if_pos (lk_is.mpr h), List.map_map]
    apply List.map_congr_left
    intro p _
    simp only [Function.comp]
    split <;> rfl
  · rw [if_neg h, if_neg (fun z => h (lk_is.mp z))]
    simp
theorem nodup_pt {k : κ} {v : ν} {l : List (κ × ν)} (n : (l.map (·.1)).Nodup) : ((pt k v l).map (·.1)).Nodup := by
  rw [keys_pt]
  split
  · exact n
  · rename_i h
    rw [List.nodup_append]
    refine ⟨n, by simp, ?_⟩
    intro a ha b hb e
    simp only [List.mem_singleton] at hb
    subst e
    subst hb
    exact h ha
theorem mem_pt {k : κ} {v : ν} {l : List (κ × ν)} {p : κ × ν} (h : p ∈ pt k v l) : p = (k, v) ∨ (p ∈ l ∧ p.1 ≠ k) := by
  unfold pt at h
  split at h
  · obtain ⟨q, hq, rfl⟩ := List.mem_map.mp h
    by_cases e : q.1 = k
    · rw [if_pos e]; exact .inl (by rw [e])
    · rw [if_neg e]; exact .inr ⟨hq, e⟩
  · rename_i e
    rcases List.mem_append.mp h with h | h
    · refine .inr ⟨h, fun z => e ?_⟩
      rw [lk_is]
      exact List.mem_map.mpr ⟨p, h, z⟩
    · exact .inl (by simpa using h)
theorem nodup_filter {q : κ × ν → Bool} {l : List (κ × ν)} (n : (l.map (·.1)).Nodup) : ((l.filter q).map (·.1)).Nodup := n.sublist (List.filter_sublist.map _)
theorem lk_append {k : κ} : ∀ {l r : List (κ × ν)}, lk k (l ++ r) = (lk k l).or (lk k r)
  | [], r => by simp [lk]
  | (a, u) :: l, r => by
    simp only [List.cons_append, lk]
    split
    · rfl
    · exact lk_append
theorem lk_map {k j : κ} {v : ν} : ∀ {l : List (κ × ν)}, lk j (l.map (fun p => if p.1 = k then (p.1, v) else p)) = if j = k then (if (lk k l).isSome then some v else none) else lk j l
  | [] => by simp [lk]
  | (a, u) :: l => by
    simp only [List.map_cons]
    by_cases h : a = k
    · subst h
      simp only [if_true, lk]
      by_cases h2 : a = j
      · subst h2; simp
      · rw [if_neg h2, if_neg (Ne.symm h2), if_neg h2, lk_map, if_neg (Ne.symm h2)]
    · simp only [if_neg h, lk]
      by_cases h2 : a = j
      · subst h2; simp [h]
      · rw [if_neg h2, if_neg h2, lk_map]
theorem lk_pt {k j : κ} {v : ν} {l : List (κ × ν)} : lk j (pt k v l) = if j = k then some v else lk j l := by
  unfold pt
  by_cases h : (lk k l).isSome = true
  · rw [if_pos h, lk_map, if_pos h]
  · rw [if_neg h, lk_append]
    by_cases e : j = k
    · subst e
      rw [if_pos rfl]
      cases e2 : lk j l with
      | none => simp [lk]
      | some v => rw [e2] at h; simp at h
    · rw [if_neg e]
      simp [lk, Ne.symm e]
theorem lk_pt_same {k : κ} {v : ν} {l : List (κ × ν)} : lk k (pt k v l) = some v := by rw [lk_pt, if_pos rfl]
theorem pt_pt {k : κ} {v u : ν} {l : List (κ × ν)} : pt k v (pt k u l) = pt k v l := by
  have h1 : (lk k (pt k u l)).isSome = true := by rw [lk_pt_same]; rfl
  rw [show pt k v (pt k u l) = (pt k u l).map (fun p => if p.1 = k then (p.1, v) else p) from if_pos h1]
  unfold pt
  by_cases h : (lk k l).isSome = true
  · simp only [h, if_true]
    rw [List.map_map]
    apply List.map_congr_left
    intro p _
    by_cases e : p.1 = k <;> simp [e]
  · simp only [if_neg h]
    rw [List.map_append]
    congr 1
    · conv => rhs; rw [← List.map_id l]
      apply List.map_congr_left
      intro p hp
      have : p.1 ≠ k := fun e => h (lk_is.mpr (List.mem_map.mpr ⟨p, hp, e⟩))
      simp [this]
    · simp
theorem pt_len {k : κ} {v : ν} {l : List (κ × ν)} : (pt k v l).length ≤ l.length + 1 := by
  unfold pt
  split
  · simp
  · simp
theorem len_sub {α : Type} [DecidableEq α] : ∀ {a b : List α}, a.Nodup → (∀ x ∈ a, x ∈ b) → a.length ≤ b.length
  | [], b, _, _ => Nat.zero_le _
  | x :: a, b, n, h => by
    rw [List.nodup_cons] at n
    have hx := h x (by simp)
    have := len_sub (a := a) (b := b.erase x) n.2 fun y hy => (List.mem_erase_of_ne (fun e : y = x => n.1 (by rw [← e]; exact hy))).mpr (h y (by simp [hy]))
    rw [List.length_erase_of_mem hx] at this
    have := List.length_pos_of_mem hx
    simp only [List.length_cons]
    omega
/-! dict of pairs -/
theorem hasK_enc' (hi : ∀ a b, ke a = ke b → a = b) {k : κ} {l : List (κ × ν)} : hasK (ke k) (encD ke ve l) = decide (k ∈ l.map (·.1)) := by
  rw [hasK_enc hi, Bool.eq_iff_iff, lk_is]
  simp
theorem putAll_enc (hi : ∀ a b, ke a = ke b → a = b) : ∀ {l acc : List (κ × ν)}, ((acc ++ l).map (·.1)).Nodup → putAll (encD ke ve acc) (encD ke ve l) = encD ke ve (acc ++ l)
  | [], acc, _ => by simp [putAll, encD]
  | (k, v) :: l, acc, n => by
    have hk : k ∉ acc.map (·.1) := by
      simp only [List.map_append, List.map_cons, List.nodup_append] at n
      intro z
      exact n.2.2 k z k (by simp) rfl
    show putAll (putK (ke k) (ve v) (encD ke ve acc)) (encD ke ve l) = _
    have e : putK (ke k) (ve v) (encD ke ve acc) = encD ke ve (acc ++ [(k, v)]) := by
      unfold putK
      rw [hasK_enc' hi]
      simp only [hk, decide_false, Bool.false_eq_true, if_false]
      simp [encD]
    rw [e, putAll_enc hi (by simpa using n)]
    simp
theorem rawP_enc (ht : ∀ k, toKy (kyW (ke k)) = some (ke k)) : ∀ {l : List (κ × ν)}, rawP (l.map fun p => .tup [kyW (ke p.1), ve p.2]) = some (encD ke ve l)
  | [] => rfl
  | (k, v) :: l => by
    simp only [List.map_cons, rawP, ht, rawP_enc ht, Option.bind_some, Option.map_some]
    rfl
theorem pairs_enc (hi : ∀ a b, ke a = ke b → a = b) (ht : ∀ k, toKy (kyW (ke k)) = some (ke k)) (ho : (∀ k, isOne (ke k) = true) ∨ ∀ k, isOne (ke k) = false) {l : List (κ × ν)} (n : (l.map (·.1)).Nodup) : pairsOf (l.map fun p => .tup [kyW (ke p.1), ve p.2]) = some (encD ke ve l) := by
  unfold pairsOf
  rw [rawP_enc ht, Option.bind_some, if_pos]
  · congr 1
    have := putAll_enc (ve := ve) hi (l := l) (acc := []) (by simpa using n)
    simpa [encD] using this
  · rw [Bool.or_eq_true, List.all_eq_true, List.all_eq_true]
    rcases ho with h | h
    · refine .inl fun p hp => ?_
      obtain ⟨q, _, rfl⟩ := List.mem_map.mp hp
      exact h _
    · refine .inr fun p hp => ?_
      obtain ⟨q, _, rfl⟩ := List.mem_map.mp hp
      simp [h]
theorem kyOk_en1 {f : κ → K1} {k : κ} : ∀ {l : List (κ × ν)}, kyOk (.one (f k)) (encD (fun a => .one (f a)) ve l) = true
  | [] => rfl
  | _ :: _ => rfl
theorem kyOk_enM {f : κ → List K1} {k : κ} : ∀ {l : List (κ × ν)}, kyOk (.many (f k)) (encD (fun a => .many (f a)) ve l) = true
  | [] => rfl
  | _ :: _ => rfl
theorem valsV_enc {l : List (κ × ν)} : valsV (encD ke ve l) = l.map fun p => ve p.2 := by simp [valsV, encD]
theorem keysV_enc {l : List (κ × ν)} : keysV (encD ke ve l) = l.map fun p => kyW (ke p.1) := by simp [keysV, encD]
theorem itemsV_enc {l : List (κ × ν)} : itemsV (encD ke ve l) = l.map fun p => .tup [kyW (ke p.1), ve p.2] := by simp [itemsV, encD]
theorem encD_ne {l : List (κ × ν)} {p : κ × ν} (h : p ∈ l) : (encD ke ve l).isEmpty = false := by
  cases l with
  | nil => cases h
  | cons a r => rfl
theorem encD_nil : encD ke ve [] = [] := rfl
theorem encD_len {l : List (κ × ν)} : (encD ke ve l).length = l.length := by simp [encD]
end
/-! keys of a kind -/
def eS (t : List Nat) : Ky := .one (.str t)
def eI (i : Int) : Ky := .one (.int i)
def eSI (p : List Nat × Int) : Ky := .many [.str p.1, .int p.2]
def eSS (p : List Nat × List Nat) : Ky := .many [.str p.1, .str p.2]
theorem eS_inj : ∀ a b, eS a = eS b → a = b := fun a b h => by simpa [eS] using h
theorem eI_inj : ∀ a b, eI a = eI b → a = b := fun a b h => by simpa [eI] using h
theorem eSI_inj : ∀ a b, eSI a = eSI b → a = b := fun a b h => Prod.ext (by simpa [eSI] using (show _ ∧ _ by simpa [eSI] using h).1) (by simpa [eSI] using (show _ ∧ _ by simpa [eSI] using h).2)
theorem eSS_inj : ∀ a b, eSS a = eSS b → a = b := fun a b h => Prod.ext (by simpa [eSS] using (show _ ∧ _ by simpa [eSS] using h).1) (by simpa [eSS] using (show _ ∧ _ by simpa [eSS] using h).2)
section
variable {ν : Type} {ve : ν → W}
theorem getK_S {t : List Nat} {l : List (List Nat × ν)} : getK (.one (.str t)) (encD eS ve l) = (lk t l).map ve := getK_enc (ke := eS) eS_inj
theorem getK_I {i : Int} {l : List (Int × ν)} : getK (.one (.int i)) (encD eI ve l) = (lk i l).map ve := getK_enc (ke := eI) eI_inj
theorem getK_SI {t : List Nat} {i : Int} {l : List ((List Nat × Int) × ν)} : getK (.many [.str t, .int i]) (encD eSI ve l) = (lk (t, i) l).map ve := getK_enc (ke := eSI) (k := (t, i)) eSI_inj
theorem getK_SS {t u : List Nat} {l : List ((List Nat × List Nat) × ν)} : getK (.many [.str t, .str u]) (encD eSS ve l) = (lk (t, u) l).map ve := getK_enc (ke := eSS) (k := (t, u)) eSS_inj
theorem kyOk_S {t : List Nat} : ∀ {l : List (List Nat × ν)}, kyOk (.one (.str t)) (encD eS ve l) = true
  | [] => rfl
  | _ :: _ => rfl
theorem kyOk_I {i : Int} : ∀ {l : List (Int × ν)}, kyOk (.one (.int i)) (encD eI ve l) = true
  | [] => rfl
  | _ :: _ => rfl
theorem kyOk_SI {t : List Nat} {i : Int} : ∀ {l : List ((List Nat × Int) × ν)}, kyOk (.many [.str t, .int i]) (encD eSI ve l) = true
  | [] => rfl
  | _ :: _ => rfl
theorem kyOk_SS {t u : List Nat} : ∀ {l : List ((List Nat × List Nat) × ν)}, kyOk (.many [.str t, .str u]) (encD eSS ve l) = true
  | [] => rfl
  | _ :: _ => rfl
theorem delK_S {t : List Nat} {l : List (List Nat × ν)} : delK (.one (.str t)) (encD eS ve l) = encD eS ve (dl t l) := delK_enc (ke := eS) eS_inj
theorem delK_I {i : Int} {l : List (Int × ν)} : delK (.one (.int i)) (encD eI ve l) = encD eI ve (dl i l) := delK_enc (ke := eI) eI_inj
theorem putK_S {t : List Nat} (v : ν) {l : List (List Nat × ν)} : putK (.one (.str t)) (ve v) (encD eS ve l) = encD eS ve (pt t v l) := putK_enc (ke := eS) eS_inj
theorem putK_I {i : Int} (v : ν) {l : List (Int × ν)} : putK (.one (.int i)) (ve v) (encD eI ve l) = encD eI ve (pt i v l) := putK_enc (ke := eI) eI_inj
theorem putK_SI {t : List Nat} {i : Int} (v : ν) {l : List ((List Nat × Int) × ν)} : putK (.many [.str t, .int i]) (ve v) (encD eSI ve l) = encD eSI ve (pt (t, i) v l) := putK_enc (ke := eSI) (k := (t, i)) eSI_inj
theorem putK_SS {t u : List Nat} (v : ν) {l : List ((List Nat × List Nat) × ν)} : putK (.many [.str t, .str u]) (ve v) (encD eSS ve l) = encD eSS ve (pt (t, u) v l) := putK_enc (ke := eSS) (k := (t, u)) eSS_inj
theorem kyW_S {t : List Nat} : kyW (eS t) = .str t := rfl
theorem kyW_I {i : Int} : kyW (eI i) = .int i := rfl
theorem kyW_SI {p : List Nat × Int} : kyW (eSI p) = .tup [.str p.1, .int p.2] := rfl
theorem kyW_SS {p : List Nat × List Nat} : kyW (eSS p) = .tup [.str p.1, .str p.2] := rfl
end
/-! del, get, views, locks -/
def delR (o : Option SO) (n : Nat) (j : W) (s : Sto) : Option Sto := match o, toKy j with
  | some (.dct false kvs), some (.one k) => (match getK (.one k) kvs with
    | some _ => some (s.set n (.dct false (delK (.one k) kvs)))
    | none => none)
  | _, _ => none
theorem del_ref {n : Nat} {j : W} : delW (.ref n) j s = delR (s.get n) n j s := by
  unfold delW delR
  dsimp only <;> (generalize s.get n = o; rcases o with _ | (_ | ⟨_ | _, _⟩ | _) <;> cases toKy j <;> rfl)
theorem delR_S {n : Nat} {t : List Nat} {kvs : List (Ky × W)} : delR (some (.dct false kvs)) n (.str t) s = if (getK (.one (.str t)) kvs).isSome = true then some (s.set n (.dct false (delK (.one (.str t)) kvs))) else none := by
  show (match getK (.one (.str t)) kvs with
    | some _ => some (s.set n (.dct false (delK (.one (.str t)) kvs)))
    | none => none) = _
  cases getK (.one (.str t)) kvs <;> simp
theorem delR_I {n : Nat} {t : Int} {kvs : List (Ky × W)} : delR (some (.dct false kvs)) n (.int t) s = if (getK (.one (.int t)) kvs).isSome = true then some (s.set n (.dct false (delK (.one (.int t)) kvs))) else none := by
  show (match getK (.one (.int t)) kvs with
    | some _ => some (s.set n (.dct false (delK (.one (.int t)) kvs)))
    | none => none) = _
  cases getK (.one (.int t)) kvs <;> simp
theorem leLine_t {n : Nat} (h : n ≤ 1000) : (n ≤ line) = True := eq_true (Nat.le_trans h (by decide))
theorem ltLine_t {n : Nat} (h : n < 1000) : (n < line) = True := eq_true (Nat.lt_of_lt_of_le h (by decide))
def dctR (o : Option SO) : Option (List (Ky × W)) := match o with
  | some (.dct lk kvs) => if (lk && kvs.isEmpty) = true then none else some kvs
  | _ => none
theorem dctOf_ref {n : Nat} : dctOf s (.ref n) = dctR (s.get n) := by
  unfold dctOf dctR
  rcases e : s.get n with _ | (_ | ⟨b, kvs⟩ | _) <;> simp [e]
theorem dctR_dct {kvs : List (Ky × W)} : dctR (some (.dct false kvs)) = some kvs := rfl
def get2R (d : Option (List (Ky × W))) (k : Option Ky) (z : W) (s : Sto) : Option (W × Sto) := match d, k with
  | some kvs, some k => if kyOk k kvs = true then some ((getK k kvs).getD z, s) else none
  | _, _ => none
theorem get2_eq {u y z : W} : get2W u y z s = get2R (dctOf s u) (toKy y) z s := rfl
theorem get2R_some {kvs : List (Ky × W)} {k : Ky} {z : W} : get2R (some kvs) (some k) z s = if kyOk k kvs = true then some ((getK k kvs).getD z, s) else none := rfl
def vwR (f : List (Ky × W) → List W) (o : Option SO) (n : Nat) (s : Sto) : Option (Src × Sto) := match o with
  | some (.dct true kvs) => some (⟨f kvs, fun s' => match s'.get n with
      | some (.dct true q) => beqD q kvs
      | _ => false⟩, s)
  | _ => none
theorem vw_ref {f : List (Ky × W) → List W} {n : Nat} : vwW f (.ref n) s = vwR f (s.get n) n s := by
  unfold vwW vwR
  dsimp only <;> (generalize s.get n = o; rcases o with _ | (_ | ⟨_ | _, _⟩ | _) <;> rfl)
theorem vwR_dct {f : List (Ky × W) → List W} {n : Nat} {kvs : List (Ky × W)} : vwR f (some (.dct true kvs)) n s = some (⟨f kvs, fun s' => match s'.get n with
      | some (.dct true q) => beqD q kvs
      | _ => false⟩, s) := rfl
mutual
theorem beq_self : ∀ w : W, W.beq w w = true
  | .non => by simp [W.beq]
  | .bl b => by simp [W.beq]
  | .int i => by simp [W.beq]
  | .str t => by simp [W.beq]
  | .tup xs => by simp [W.beq, beqL_self xs]
  | .lst xs => by simp [W.beq, beqL_self xs]
  | .dct kvs => by simp [W.beq, beqD_self kvs]
  | .obj c fs => by simp [W.beq, beqF_self fs]
  | .ref n => by simp [W.beq]
  | .ctp xs => by simp [W.beq, beqL_self xs]
theorem beqL_self : ∀ xs : List W, beqL xs xs = true
  | [] => by simp [beqL]
  | x :: xs => by simp [beqL, beq_self x, beqL_self xs]
theorem beqD_self : ∀ xs : List (Ky × W), beqD xs xs = true
  | [] => by simp [beqD]
  | (k, x) :: xs => by simp [beqD, beq_self x, beqD_self xs]
theorem beqF_self : ∀ xs : List (Nat × W), beqF xs xs = true
  | [] => by simp [beqF]
  | (k, x) :: xs => by simp [beqF, beq_self x, beqF_self xs]
end
def unlkR (o : Option SO) (n : Nat) (s : Sto) : Option Sto := match o with
  | some (.dct true kvs) => some (s.set n (.dct false kvs))
  | _ => none
theorem unlk_r {n : Nat} : unlk n s = unlkR (s.get n) n s := by
  unfold unlk unlkR
  generalize s.get n = o
  rcases o with _ | (_ | ⟨_ | _, _⟩ | _) <;> rfl
theorem lockK_r {α : Type} {n : Nat} {Q : KM α} {a : α} : LockK n Q (.ok a) s = (match unlkR (s.get n) n s with
    | some s2 => Q (.ok a) s2
    | none => False) := by unfold LockK; (simp only [unlk_r]) <;> rfl
theorem lockO_rt {n : Nat} {Q : KO} {w : W} : LockO n Q (.rt w) s = (match unlkR (s.get n) n s with
    | some s2 => Q (.rt w) s2
    | none => False) := by unfold LockO; (simp only [unlk_r]) <;> rfl
theorem lockO_nx {n : Nat} {Q : KO} {ρ : Env} : LockO n Q (.nx ρ) s = (match unlkR (s.get n) n s with
    | some s2 => Q (.nx ρ) s2
    | none => False) := by unfold LockO; (simp only [unlk_r]) <;> rfl
theorem intsOf_map : ∀ {l : List Int}, intsOf (l.map .int) = some l
  | [] => rfl
  | i :: l => by simp [intsOf, intsOf_map]
def inVR (o : Option SO) (x : W) (s : Sto) : Option (Bool × Sto) := match o with
  | some (.dct lk kvs) => if (lk && kvs.isEmpty) = true then none else (match x with
    | .int i => (match intsOf (valsV kvs) with
      | some is => some (is.any fun j => decide (j = i), s)
      | none => none)
    | _ => none)
  | _ => none
theorem inV_ref {n : Nat} {x : W} : inVW x (.ref n) s = inVR (s.get n) x s := by
  unfold inVW inVR
  simp only [dctOf]
  rcases e : s.get n with _ | (_ | ⟨b, kvs⟩ | _)
  · cases x <;> rfl
  · cases x <;> rfl
  · dsimp only
    by_cases h : (b && kvs.isEmpty) = true
    · simp only [h, if_true]
    · simp only [h]
      cases x <;> rfl
  · cases x <;> rfl
theorem inVR_enc {κ : Type} {ke : κ → Ky} {i : Int} {l : List (κ × Int)} : inVR (some (.dct false (encD ke W.int l))) (.int i) s = some (decide (i ∈ l.map (·.2)), s) := by
  have e : valsV (encD ke W.int l) = (l.map (·.2)).map .int := by simp [valsV, encD]
  simp only [inVR, e, intsOf_map, Bool.false_and, Bool.false_eq_true, if_false]
  congr 2
  rw [Bool.eq_iff_iff]
  simp
/-! len, list, tuple .. -/
def lenR (o : Option SO) (s : Sto) : Option (W × Sto) := match o with
  | some (.lst xs) => some (.int xs.length, s)
  | some (.dct false kvs) => some (.int kvs.length, s)
  | _ => none
theorem len_lst {xs : List W} : biW .len [.lst xs] s = some (.int xs.length, s) := rfl
theorem len_tup {xs : List W} : biW .len [.tup xs] s = some (.int xs.length, s) := rfl
theorem len_str {t : List Nat} : biW .len [.str t] s = if t.length ≤ line then some (.int t.length, s) else none := rfl
theorem len_refL {n : Nat} {xs : List W} (h : s.get n = some (.lst xs)) : biW .len [.ref n] s = some (.int xs.length, s) := by
  simp [biW, dctOf, h, seqOf, lstOf, Op1.of]
theorem len_refD {n : Nat} {kvs : List (Ky × W)} (h : s.get n = some (.dct false kvs)) : biW .len [.ref n] s = some (.int kvs.length, s) := by
  simp [biW, dctOf, h, Op1.ret]
theorem tuple_lst {xs : List W} : biW .tuple [.lst xs] s = some (.tup xs, s) := rfl
theorem tuple_tup {xs : List W} : biW .tuple [.tup xs] s = some (.tup xs, s) := rfl
theorem list_tup {m : Bool} {xs : List W} : biW (.list m) [.tup xs] s = mkL m xs s := rfl
theorem list_lst {m : Bool} {xs : List W} : biW (.list m) [.lst xs] s = mkL m xs s := rfl
theorem mkL_f {xs : List W} : mkL false xs s = if xs.length ≤ line then some (.lst xs, s) else none := rfl
theorem mkL_t {xs : List W} : mkL true xs s = if xs.length ≤ line then some (.ref s.nxt, s.new (.lst xs)) else none := rfl
theorem dict_lst {xs : List W} : biW .dict [.lst xs] s = (match pairsOf xs with
    | some kvs => if kvs.length ≤ line then some (.ref s.nxt, s.new (.dct false kvs)) else none
    | none => none) := rfl
theorem slc_lst {xs : List W} {lo hi : Option Int} : slcW (.lst xs) lo hi s = some (.lst (cutL xs lo hi), s) := rfl
theorem slc_tup {xs : List W} {lo hi : Option Int} : slcW (.tup xs) lo hi s = some (.tup (cutL xs lo hi), s) := rfl
theorem slc_str {t : List Nat} {lo hi : Option Int} : slcW (.str t) lo hi s = if t.length ≤ line then some (.str (cutL t lo hi), s) else none := rfl
theorem cutL_1 {α : Type} {xs : List α} : cutL xs none (some 1) = xs.take 1 := by
  cases xs with
  | nil => rfl
  | cons x r =>
    have h1 : HT.sIx (r.length + 1) 0 none = 0 := by simp [HT.sIx]
    have h2 : HT.sIx (r.length + 1) (r.length + 1) (some 1) = 1 := by
      simp [HT.sIx]
    simp [cutL, h1, h2]
/-! sorts of pairs -/
def eIS (p : Int × List Nat) : W := .tup [.int p.1, .str p.2]
def kIS (p : Int × List Nat) : List K1 := [.int p.1, .str p.2]
def unIS : List K1 → Int × List Nat
  | [.int i, .str t] => (i, t)
  | _ => (0, [])
def sortIS (l : List (Int × List Nat)) : List (Int × List Nat) := (sortK (l.map kIS)).map unIS
theorem insB_mem {α : Type} {lt : α → α → Bool} {x y : α} : ∀ {l : List α}, x ∈ insB lt y l ↔ x = y ∨ x ∈ l
  | [] => by simp [insB]
  | z :: l => by
    unfold insB
    split
    · simp only [List.mem_cons, insB_mem]
      constructor
      · rintro (h | h | h) <;> simp [h]
      · rintro (h | h | h) <;> simp [h]
    · simp
theorem sortB_mem {α : Type} {lt : α → α → Bool} {x : α} : ∀ {l : List α}, x ∈ sortB lt l ↔ x ∈ l
  | [] => by simp [sortB]
  | y :: l => by simp only [sortB, insB_mem, sortB_mem, List.mem_cons]
theorem insB_len {α : Type} {lt : α → α → Bool} {y : α} : ∀ {l : List α}, (insB lt y l).length = l.length + 1
  | [] => rfl
  | z :: l => by
    unfold insB
    split
    · simp [insB_len]
    · simp
theorem sortB_len {α : Type} {lt : α → α → Bool} : ∀ {l : List α}, (sortB lt l).length = l.length
  | [] => rfl
  | y :: l => by simp [sortB, insB_len, sortB_len]
theorem sortIS_mem {p : Int × List Nat} {l : List (Int × List Nat)} : p ∈ sortIS l ↔ p ∈ l := by
  unfold sortIS sortK
  constructor
  · intro h
    obtain ⟨k, hk, rfl⟩ := List.mem_map.mp h
    obtain ⟨q, hq, rfl⟩ := List.mem_map.mp (sortB_mem.mp hk)
    exact hq
  · intro h
    exact List.mem_map.mpr ⟨kIS p, sortB_mem.mpr (List.mem_map.mpr ⟨p, h, rfl⟩), rfl⟩
theorem sortIS_len {l : List (Int × List Nat)} : (sortIS l).length = l.length := by
  unfold sortIS sortK
  rw [List.length_map, sortB_len, List.length_map]
theorem tupsOf_IS : ∀ {l : List (Int × List Nat)}, tupsOf (l.map eIS) = some (l.map kIS)
  | [] => rfl
  | p :: l => by simp [eIS, tupsOf, toK1s, toK1, tupsOf_IS, kIS]
theorem sortT_IS {l : List (Int × List Nat)} : biW .sortT [.lst (l.map eIS)] s = if l.length < 64 then some (.lst ((sortIS l).map eIS), s) else none := by
  have ok : tupsOk (l.map kIS) = true := by
    cases l with
    | nil => rfl
    | cons p l =>
      simp only [List.map_cons, tupsOk, kIS, List.all_cons, List.all_map, Bool.and_eq_true, List.all_eq_true]
      exact fun q _ => rfl
  have e : (sortK (l.map kIS)).map (fun k => W.tup (k.map k1W)) = (sortIS l).map eIS := by
    unfold sortIS
    rw [List.map_map]
    apply List.map_congr_left
    intro k hk
    obtain ⟨q, hq, rfl⟩ := List.mem_map.mp (sortB_mem.mp hk)
    rfl
  show Op1.of (Option.bind (some (l.map eIS)) _) s = _
  simp only [Option.bind_some, tupsOf_IS, ok, Bool.true_and, List.length_map, decide_eq_true_eq]
  by_cases h : l.length < 64
  · simp only [h, if_true, e]; rfl
  · simp only [h, if_false]; rfl
def listdR (m : Bool) (d : Option (List (Ky × W))) (s : Sto) : Option (W × Sto) := match d with
  | some kvs => mkL m (keysV kvs) s
  | none => none
theorem listd_eq {m : Bool} {x : W} : biW (.listd m) [x] s = listdR m (dctOf s x) s := rfl
theorem listdR_some {m : Bool} {kvs : List (Ky × W)} : listdR m (some kvs) s = mkL m (keysV kvs) s := rfl
/-- sorts of tuples of a shape -/
def sortG {α : Type} (kf : α → List K1) (un : List K1 → α) (l : List α) : List α := (sortK (l.map kf)).map un
theorem sortG_mem {α : Type} {kf : α → List K1} {un : List K1 → α} (hu : ∀ a, un (kf a) = a) {p : α} {l : List α} : p ∈ sortG kf un l ↔ p ∈ l := by
  unfold sortG sortK
  constructor
  · intro h
    obtain ⟨k, hk, rfl⟩ := List.mem_map.mp h
    obtain ⟨q, hq, rfl⟩ := List.mem_map.mp (sortB_mem.mp hk)
    rw [hu]
    exact hq
  · intro h
    exact List.mem_map.mpr ⟨kf p, sortB_mem.mpr (List.mem_map.mpr ⟨p, h, rfl⟩), hu p⟩
theorem sortG_len {α : Type} {kf : α → List K1} {un : List K1 → α} {l : List α} : (sortG kf un l).length = l.length := by
  unfold sortG sortK
  rw [List.length_map, sortB_len, List.length_map]
theorem insB_prm {α : Type} {lt : α → α → Bool} {y : α} : ∀ {l : List α}, (insB lt y l).Perm (y :: l)
  | [] => .refl _
  | z :: l => by
    unfold insB
    split
    · exact (List.Perm.cons z insB_prm).trans (.swap y z l)
    · exact .refl _
theorem sortB_prm {α : Type} {lt : α → α → Bool} : ∀ {l : List α}, (sortB lt l).Perm l
  | [] => .refl _
  | y :: l => insB_prm.trans (List.Perm.cons y sortB_prm)
theorem sortG_perm {α : Type} {kf : α → List K1} {un : List K1 → α} (hu : ∀ a, un (kf a) = a) {l : List α} : (sortG kf un l).Perm l := by
  have h := (sortB_prm (lt := ltKs) (l := l.map kf)).map un
  rw [List.map_map, show un ∘ kf = id from funext hu, List.map_id] at h
  exact h
def eT {α : Type} (kf : α → List K1) (a : α) : W := .tup ((kf a).map k1W)
theorem toK1s_map : ∀ {ks : List K1}, toK1s (ks.map k1W) = some ks
  | [] => rfl
  | .int i :: ks => by simp [toK1s, k1W, toK1, toK1s_map]
  | .str i :: ks => by simp [toK1s, k1W, toK1, toK1s_map]
theorem tupsOf_map {α : Type} {kf : α → List K1} : ∀ {l : List α}, tupsOf (l.map (eT kf)) = some (l.map kf)
  | [] => rfl
  | a :: l => by
    show (toK1s ((kf a).map k1W)).bind (fun k => (tupsOf (l.map (eT kf))).map fun ks => k :: ks) = _
    rw [toK1s_map, tupsOf_map]
    rfl
theorem sortT_G {α : Type} {kf : α → List K1} {un : List K1 → α} (hu : ∀ a, un (kf a) = a) (hs : ∀ a b, sameKs (kf a) (kf b) = true) (hn : ∀ a, kf a ≠ []) {x : W} {l : List α} (h : itemsOf s x = some (l.map (eT kf))) : biW .sortT [x] s = if l.length < 64 then some (.lst ((sortG kf un l).map (eT kf)), s) else none := by
  have ok : tupsOk (l.map kf) = true := by
    cases l with
    | nil => rfl
    | cons p l =>
      simp only [List.map_cons]
      cases e : kf p with
      | nil => exact (hn p e).elim
      | cons a as =>
        simp only [tupsOk, List.all_map, List.all_eq_true, Function.comp]
        intro q _
        rw [← e]
        exact hs p q
  have e : (sortK (l.map kf)).map (fun k => W.tup (k.map k1W)) = (sortG kf un l).map (eT kf) := by
    unfold sortG
    rw [List.map_map]
    apply List.map_congr_left
    intro k hk
    obtain ⟨q, hq, rfl⟩ := List.mem_map.mp (sortB_mem.mp hk)
    simp only [Function.comp, hu, eT]
  show Op1.of ((itemsOf s x).bind _) s = _
  simp only [h, Option.bind_some, tupsOf_map, ok, Bool.true_and, List.length_map, decide_eq_true_eq]
  by_cases h : l.length < 64
  · simp only [h, if_true, e]; rfl
  · simp only [h, if_false]; rfl
theorem itemsOf_lst {ys : List W} : itemsOf s (.lst ys) = some ys := rfl
theorem itemsOf_ref {n : Nat} {kvs : List (Ky × W)} (h : s.get n = some (.dct false kvs)) : itemsOf s (.ref n) = some (keysV kvs) := by
  simp [itemsOf, dctOf, h, keysV]
mutual
theorem eqW_refl : ∀ {d : Nat} {w : W}, dataW d w = true → eqW w w = true
  | _, .non, _ => by simp [eqW]
  | _, .bl b, _ => by simp [eqW]
  | _, .int i, _ => by simp [eqW]
  | _, .str t, _ => by simp [eqW]
  | d + 1, .tup xs, h => by simp only [eqW]; exact eqL_refl (d := d) (by simpa [dataW] using h)
  | d + 1, .lst xs, h => by simp only [eqW]; exact eqL_refl (d := d) (by simpa [dataW] using h)
  | 0, .tup xs, h => by simp [dataW] at h
  | 0, .lst xs, h => by simp [dataW] at h
  | d, .dct _, h => by cases d <;> simp [dataW] at h
  | d, .obj _ _, h => by cases d <;> simp [dataW] at h
  | d, .ref _, h => by cases d <;> simp [dataW] at h
  | d, .ctp _, h => by cases d <;> simp [dataW] at h
theorem eqL_refl : ∀ {d : Nat} {xs : List W}, dataL d xs = true → eqL xs xs = true
  | _, [], _ => by simp [eqL]
  | d, x :: xs, h => by
    simp only [dataL, Bool.and_eq_true] at h
    simp only [eqL, eqW_refl h.1, eqL_refl h.2, Bool.and_self]
end
theorem eqc_refl {w : W} (h : dataW 49 w = true) : eqC s w w = some true := by
  have hn : ∀ n, w ≠ .ref n := fun n e => by subst e; simp [dataW] at h
  rw [eqc_dat (dat_w h hn) (dat_w h hn), eqW_refl h]
theorem dataL_all {d : Nat} : ∀ {xs : List W}, (∀ x ∈ xs, dataW d x = true) → dataL d xs = true
  | [], _ => by simp [dataL]
  | x :: xs, h => by
    have h1 := h x (List.mem_cons_self ..)
    have h2 := dataL_all (xs := xs) (fun y hy => h y (List.mem_cons_of_mem _ hy))
    simp only [dataL, h1, h2, Bool.and_self]
def okS (t : List Nat) : Bool := t.all fun c => decide (c < 1114112)
/-! what is walked -/
theorem src_lst {xs : List W} : srcW (.lst xs) s = some (⟨xs, fun _ => true⟩, s) := rfl
theorem src_tup {xs : List W} : srcW (.tup xs) s = some (⟨xs, fun _ => true⟩, s) := rfl
theorem src_str {t : List Nat} : srcW (.str t) s = some (⟨t.map fun c => .str [c], fun _ => true⟩, s) := rfl
def srcR (o : Option SO) (n : Nat) (s : Sto) : Option (Src × Sto) := match o with
  | some (.lst xs) => some (⟨xs, fun s' => match s'.get n with
      | some (.lst ys) => beqL ys xs
      | _ => false⟩, s)
  | _ => none
theorem src_ref {n : Nat} : srcW (.ref n) s = srcR (s.get n) n s := by
  unfold srcW srcR
  dsimp only <;> (generalize s.get n = o; rcases o with _ | (_ | ⟨_ | _, _⟩ | _) <;> rfl)
def rangeI : Int → Nat → List Int
  | _, 0 => []
  | lo, n + 1 => lo :: rangeI (lo + 1) n
theorem rangeL_eq : ∀ {lo : Int} {n : Nat}, rangeL lo n = (rangeI lo n).map .int
  | _, 0 => rfl
  | lo, n + 1 => by simp [rangeL, rangeI, rangeL_eq]
theorem mem_rangeI {i : Int} : ∀ {n : Nat} {lo : Int}, i ∈ rangeI lo n ↔ lo ≤ i ∧ i < lo + n
  | 0, lo => by simp [rangeI]
  | n + 1, lo => by
    simp only [rangeI, List.mem_cons, mem_rangeI]
    omega
theorem rangeI_len : ∀ {n : Nat} {lo : Int}, (rangeI lo n).length = n
  | 0, _ => rfl
  | n + 1, lo => by simp [rangeI, rangeI_len]
/-! comprehensions -/
theorem filterMap_if {β γ : Type} (p : β → Bool) (f : β → γ) (xs : List β) : xs.filterMap (fun x => if p x then some (f x) else none) = (xs.filter p).map f := by
  induction xs with
  | nil => rfl
  | cons x xs ih => by_cases h : p x = true <;> simp [List.filterMap_cons, List.filter_cons, h, ih]
/-- a comprehension with a test -/
theorem wp_comp {β γ : Type} (inj : β → W) (p : β → Bool) (emb : γ → W) (g : β → γ) {gg : W → M (Option W)} {ok : Sto → Bool} (xs : List β) (res : List γ) {items : List W} {Q : KM (List W)} (hi : items = xs.map inj) (hr : (xs.filter p).map g = res) (hg : ∀ x ∈ xs, Wp (gg (inj x)) s (fun r s' => r = .ok (if p x then some (emb (g x)) else none) ∧ s' = s)) (ho : ok s = true) (q : Q (.ok (res.map emb)) s) : Wp (M.gather gg ok items) s Q := by
  rw [hi]
  refine wp_gather (h := fun x => if p x then some (emb (g x)) else none) hg ho ?_
  rw [filterMap_if, show (fun x => emb (g x)) = emb ∘ g from rfl, ← List.map_map, hr]
  exact q
/-- one without -/
theorem wp_comp1 {β γ : Type} (inj : β → W) (emb : γ → W) (g : β → γ) {gg : W → M (Option W)} {ok : Sto → Bool} (xs : List β) (res : List γ) {items : List W} {Q : KM (List W)} (hi : items = xs.map inj) (hr : xs.map g = res) (hg : ∀ x ∈ xs, Wp (gg (inj x)) s (fun r s' => r = .ok (some (emb (g x))) ∧ s' = s)) (ho : ok s = true) (q : Q (.ok (res.map emb)) s) : Wp (M.gather gg ok items) s Q := by
  rw [hi]
  refine wp_gather (h := fun x => some (emb (g x))) hg ho ?_
  rw [List.filterMap_eq_map', show (fun x => emb (g x)) = emb ∘ g from rfl, ← List.map_map, hr]
  exact q
/-- a for's turns over items of a kind -/
theorem wo_turnsM {β : Type} (inj : β → W) {body : W → Env → MO} {ok : Sto → Bool} {Q : KO} (I : List β → Env → Sto → Prop) (step : ∀ x r ρ s, I (x :: r) ρ s → Wo (body (inj x) ρ) s (TurnK ok (I r) Q)) (fin : ∀ ρ s, I [] ρ s → Q (.nx ρ) s) {xs : List β} {items : List W} (hi : items = xs.map inj) {ρ : Env} {s : Sto} (h : I xs ρ s) : Wo (turns body ok items ρ) s Q := by
  subst hi
  refine wo_turns (fun l ρ s => ∃ tl : List β, l = tl.map inj ∧ I tl ρ s) ?_ ?_ ⟨xs, rfl, h⟩
  · rintro x r ρ s ⟨tl, hl, hI⟩
    cases tl with
    | nil => cases hl
    | cons p tl =>
      simp only [List.map_cons, List.cons.injEq] at hl
      obtain ⟨rfl, rfl⟩ := hl
      refine (step p tl ρ s hI).mono ?_
      intro o s' q
      cases o <;> first | exact q | exact ⟨q.1, tl, rfl, q.2⟩
  · rintro ρ s ⟨tl, hl, hI⟩
    cases tl with
    | nil => exact fin ρ s hI
    | cons p tl => cases hl
theorem le_line {n : Nat} (h : n ≤ 1000) : n ≤ line := Nat.le_trans h (by decide)
theorem lt_line {n : Nat} (h : n < 1000) : n < line := Nat.lt_of_lt_of_le h (by decide)
end
end Mn

end

section
set_option Elab.async false
set_option linter.all false
set_option maxRecDepth 100000
set_option maxHeartbeats 0
namespace L
open Mn
/-- Lender.__init__: 0=self 1=first 2=last 3=time -/
def b0 : Ss := (.cons (.iff (.or_ (.not_ (.chn .le .le (.cst (.int 0)) (.var 1) (.var 2))) (.cmp .lt (.var 3) (.cst (.int 1)))) (.cons (.rais 3 (.cst (.str [110, 111, 116, 104, 105, 110, 103, 32, 116, 111, 32, 108, 101, 110, 100]))) .nil) .nil) (.cons (.asg (.fld (.var 0) 0) (.var 1)) (.cons (.asg (.fld (.var 0) 1) (.var 2)) (.cons (.asg (.fld (.var 0) 2) (.var 3)) (.cons (.asg (.fld (.var 0) 3) .dct0) (.cons (.asg (.fld (.var 0) 4) .dct0) .nil))))))
def f0 : Fn := ⟨4, 4, b0, false⟩
/-- Lender.free: 0=self 1=moment 2=held 3=address 4=until -/
def b1 : Ss := (.cons (.lkd 0 (some 3) (.asg (.var 2) (.comp false (.var 3) (.tup (.cons (.var 3) (.cons (.var 4) .nil))) (.vals (.fld (.var 0) 3)) (.cons (.cmp .gt (.var 4) (.var 1)) .nil)))) (.cons (.ret (.bi .tuple (.cons (.comp false (.var 3) (.var 3) (.rng2 (.fld (.var 0) 0) (.bin .add (.fld (.var 0) 1) (.cst (.int 1)))) (.cons (.cmp .notin (.var 3) (.var 2)) .nil)) .nil))) .nil))
def f1 : Fn := ⟨5, 2, b1, false⟩
/-- Lender.offer: 0=self 1=who 2=moment 3=free 4=fresh 5=address -/
def b2 : Ss := (.cons (.iff (.and_ (.cmp .isin (.var 1) (.fld (.var 0) 3)) (.cmp .gt (.idx (.idx (.fld (.var 0) 3) (.var 1)) (.cst (.int 1))) (.var 2))) (.cons (.ret (.idx (.idx (.fld (.var 0) 3) (.var 1)) (.cst (.int 0)))) .nil) .nil) (.cons (.asg (.var 3) (.meth (.var 0) 5 (.cons (.var 2) .nil))) (.cons (.iff (.cmp .eq (.var 3) (.tup .nil)) (.cons (.rais 6 (.cst (.str [110, 111, 110, 101, 32, 102, 114, 101, 101]))) .nil) .nil) (.cons (.iff (.and_ (.cmp .isin (.var 1) (.fld (.var 0) 4)) (.cmp .isin (.idx (.fld (.var 0) 4) (.var 1)) (.var 3))) (.cons (.ret (.idx (.fld (.var 0) 4) (.var 1))) .nil) .nil) (.cons (.asg (.var 4) (.comp false (.var 5) (.var 5) (.seq (.var 3)) (.cons (.inV false (.var 5) (.fld (.var 0) 4)) .nil))) (.cons (.ret (.ite (.cmp .ne (.var 4) (.lst false .nil)) (.idx (.var 4) (.cst (.int 0))) (.idx (.var 3) (.cst (.int 0))))) .nil))))))
def f2 : Fn := ⟨6, 3, b2, false⟩
/-- Lender.take: 0=self 1=who 2=address 3=moment -/
def b3 : Ss := (.cons (.iff (.cmp .ne (.var 2) (.meth (.var 0) 6 (.cons (.var 1) (.cons (.var 3) .nil)))) (.cons (.rais 7 (.cst (.str [110, 111, 116, 32, 116, 104, 97, 116, 32, 111, 110, 101]))) .nil) .nil) (.cons (.asg (.sub (.fld (.var 0) 3) (.var 1)) (.tup (.cons (.var 2) (.cons (.bin .add (.var 3) (.fld (.var 0) 2)) .nil)))) (.cons (.asg (.sub (.fld (.var 0) 4) (.var 1)) (.var 2)) (.cons (.ret (.bin .add (.var 3) (.fld (.var 0) 2))) .nil))))
def f3 : Fn := ⟨4, 4, b3, false⟩
/-- Lender.keep_on: 0=self 1=who 2=moment -/
def b4 : Ss := (.cons (.iff (.or_ (.cmp .notin (.var 1) (.fld (.var 0) 3)) (.cmp .le (.idx (.idx (.fld (.var 0) 3) (.var 1)) (.cst (.int 1))) (.var 2))) (.cons (.rais 7 (.cst (.str [105, 116, 32, 104, 111, 108, 100, 115, 32, 110, 111, 110, 101]))) .nil) .nil) (.cons (.asg (.sub (.fld (.var 0) 3) (.var 1)) (.tup (.cons (.idx (.idx (.fld (.var 0) 3) (.var 1)) (.cst (.int 0))) (.cons (.bin .add (.var 2) (.fld (.var 0) 2)) .nil)))) (.cons (.ret (.bin .add (.var 2) (.fld (.var 0) 2))) .nil)))
def f4 : Fn := ⟨3, 3, b4, false⟩
/-- Lender.give_back: 0=self 1=who -/
def b5 : Ss := (.cons (.iff (.cmp .notin (.var 1) (.fld (.var 0) 3)) (.cons (.rais 6 (.var 1)) .nil) .nil) (.cons (.del (.fld (.var 0) 3) (.var 1)) .nil))
def f5 : Fn := ⟨2, 2, b5, false⟩
/-- Lender.holders: 0=self 1=moment 2=who 3=address 4=until -/
def b6 : Ss := (.cons (.ret (.bi .tuple (.cons (.bi .sortT (.cons (.lkd 0 (some 3) (.comp false (.tup (.cons (.var 3) (.cons (.var 2) .nil))) (.tup (.cons (.var 2) (.cons (.tup (.cons (.var 3) (.cons (.var 4) .nil))) .nil))) (.items (.fld (.var 0) 3)) (.cons (.cmp .gt (.var 4) (.var 1)) .nil))) .nil)) .nil))) .nil)
def f6 : Fn := ⟨5, 2, b6, false⟩
/-- asks_again: 0=taken 1=until -/
def b7 : Ss := (.cons (.iff (.cmp .le (.var 1) (.var 0)) (.cons (.rais 3 (.cst (.str [110, 111, 32, 116, 105, 109, 101]))) .nil) .nil) (.cons (.ret (.tup (.cons (.bin .add (.var 0) (.bin .fdiv (.bin .sub (.var 1) (.var 0)) (.cst (.int 2)))) (.cons (.bin .add (.var 0) (.bin .fdiv (.bin .mul (.bin .sub (.var 1) (.var 0)) (.cst (.int 7))) (.cst (.int 8)))) .nil)))) .nil))
def f7 : Fn := ⟨2, 2, b7, false⟩
/-- Gate.__init__: 0=self 1=first 2=last 3=time -/
def b8 : Ss := (.cons (.iff (.or_ (.not_ (.chn .lt .le (.cst (.int 0)) (.var 1) (.var 2))) (.cmp .lt (.var 3) (.cst (.int 1)))) (.cons (.rais 3 (.cst (.str [110, 111, 32, 103, 97, 116, 101]))) .nil) .nil) (.cons (.asg (.fld (.var 0) 0) (.var 1)) (.cons (.asg (.fld (.var 0) 1) (.var 2)) (.cons (.asg (.fld (.var 0) 2) (.var 3)) (.cons (.asg (.fld (.var 0) 7) .dct0) (.cons (.asg (.fld (.var 0) 8) .dct0) .nil))))))
def f8 : Fn := ⟨4, 4, b8, false⟩
/-- Gate.fix: 0=self 1=port 2=host 3=inner 4=moment 5=row -/
def b9 : Ss := (.cons (.expr (.meth (.var 0) 9 (.cons (.var 4) .nil))) (.cons (.iff (.or_ (.cmp .isin (.var 1) (.fld (.var 0) 8)) (.cmp .isin (.var 1) (.lkd 0 (some 7) (.comp false (.idx (.var 5) (.cst (.int 0))) (.var 5) (.vals (.fld (.var 0) 7)) .nil)))) (.cons (.rais 7 (.cst (.str [105, 110, 32, 117, 115, 101]))) .nil) .nil) (.cons (.asg (.sub (.fld (.var 0) 8) (.var 1)) (.tup (.cons (.var 2) (.cons (.var 3) .nil)))) .nil)))
def f9 : Fn := ⟨6, 5, b9, false⟩
/-- Gate.out: 0=self 1=host 2=port 3=to 4=moment 5=outer 6=inner 7=used 8=free 9=since 10=asked 11=one 12=row -/
def b10 : Ss := (.cons (.lkd 0 (some 8) (.forr (.tup (.cons (.var 5) (.cons (.var 6) .nil))) (.items (.fld (.var 0) 8)) (.cons (.iff (.cmp .eq (.var 6) (.tup (.cons (.var 1) (.cons (.var 2) .nil)))) (.cons (.ret (.var 5)) .nil) .nil) .nil))) (.cons (.expr (.meth (.var 0) 9 (.cons (.var 4) .nil))) (.cons (.iff (.cmp .notin (.tup (.cons (.var 1) (.cons (.var 2) .nil))) (.fld (.var 0) 7)) (.cons (.asg (.var 7) (.bin .add (.lkd 0 (some 7) (.comp false (.idx (.var 12) (.cst (.int 0))) (.var 12) (.vals (.fld (.var 0) 7)) .nil)) (.bi (.listd false) (.cons (.fld (.var 0) 8) .nil)))) (.cons (.asg (.var 8) (.comp false (.var 11) (.var 11) (.rng2 (.fld (.var 0) 0) (.bin .add (.fld (.var 0) 1) (.cst (.int 1)))) (.cons (.cmp .notin (.var 11) (.var 7)) .nil))) (.cons (.iff (.cmp .eq (.var 8) (.lst false .nil)) (.cons (.rais 8 (.cst (.str [110, 111, 32, 112, 111, 114, 116]))) .nil) .nil) (.cons (.asg (.sub (.fld (.var 0) 7) (.tup (.cons (.var 1) (.cons (.var 2) .nil)))) (.tup (.cons (.idx (.var 8) (.cst (.int 0))) (.cons (.var 4) (.cons (.tup .nil) .nil))))) .nil)))) .nil) (.cons (.asg (.tup (.cons (.var 5) (.cons (.var 9) (.cons (.var 10) .nil)))) (.idx (.fld (.var 0) 7) (.tup (.cons (.var 1) (.cons (.var 2) .nil))))) (.cons (.asg (.sub (.fld (.var 0) 7) (.tup (.cons (.var 1) (.cons (.var 2) .nil)))) (.tup (.cons (.var 5) (.cons (.var 4) (.cons (.ite (.cmp .isin (.var 3) (.var 10)) (.var 10) (.bin .add (.var 10) (.tup (.cons (.var 3) .nil)))) .nil))))) (.cons (.ret (.var 5)) .nil))))))
def f10 : Fn := ⟨13, 5, b10, false⟩
/-- Gate.come: 0=self 1=port 2=source 3=moment 4=inner 5=outer 6=since 7=asked -/
def b11 : Ss := (.cons (.iff (.cmp .isin (.var 1) (.fld (.var 0) 8)) (.cons (.ret (.idx (.fld (.var 0) 8) (.var 1))) .nil) .nil) (.cons (.expr (.meth (.var 0) 9 (.cons (.var 3) .nil))) (.cons (.forr (.tup (.cons (.var 4) (.cons (.tup (.cons (.var 5) (.cons (.var 6) (.cons (.var 7) .nil)))) .nil))) (.seq (.litems false (.fld (.var 0) 7))) (.cons (.iff (.and_ (.cmp .eq (.var 5) (.var 1)) (.cmp .isin (.var 2) (.var 7))) (.cons (.asg (.sub (.fld (.var 0) 7) (.var 4)) (.tup (.cons (.var 5) (.cons (.var 3) (.cons (.var 7) .nil))))) (.cons (.ret (.var 4)) .nil)) .nil) .nil)) (.cons (.rais 7 (.cst (.str [110, 111, 98, 111, 100, 121, 32, 97, 115, 107, 101, 100]))) .nil))))
def f11 : Fn := ⟨8, 4, b11, false⟩
/-- Gate.forget: 0=self 1=moment 2=inner 3=row -/
def b12 : Ss := (.cons (.asg (.fld (.var 0) 7) (.bi .dict (.cons (.lkd 0 (some 7) (.comp false (.tup (.cons (.var 2) (.cons (.var 3) .nil))) (.tup (.cons (.var 2) (.cons (.var 3) .nil))) (.items (.fld (.var 0) 7)) (.cons (.cmp .lt (.bin .sub (.var 1) (.idx (.var 3) (.cst (.int 1)))) (.fld (.var 0) 2)) .nil))) .nil))) .nil)
def f12 : Fn := ⟨4, 2, b12, false⟩
/-- Gate.in_use: 0=self 1=moment 2=found 3=inner 4=row 5=outer -/
def b13 : Ss := (.cons (.expr (.meth (.var 0) 9 (.cons (.var 1) .nil))) (.cons (.lkd 0 (some 7) (.asg (.var 2) (.comp false (.bin .add (.tup (.cons (.idx (.var 4) (.cst (.int 0))) .nil)) (.var 3)) (.tup (.cons (.var 3) (.cons (.var 4) .nil))) (.items (.fld (.var 0) 7)) .nil))) (.cons (.ret (.bi .tuple (.cons (.bi .sortT (.cons (.bin .add (.var 2) (.lkd 0 (some 8) (.comp false (.bin .add (.tup (.cons (.var 5) .nil)) (.var 3)) (.tup (.cons (.var 5) (.cons (.var 3) .nil))) (.items (.fld (.var 0) 8)) .nil))) .nil)) .nil))) .nil)))
def f13 : Fn := ⟨6, 2, b13, false⟩
/-- _law_dice: 0=cell -/
def b14 : Ss := (.cons (.iff (.chn .lt .lt (.bin .sub (.cst (.int 0)) (.cst (.int 10))) (.var 0) (.cst (.int 10))) (.cons (.ret (.lst true (.cons (.bi .abs (.cons (.var 0) .nil)) (.cons (.cst (.int 0)) (.cons (.cst (.int 2)) .nil))))) .nil) .nil) (.cons (.ret (.lst true (.cons (.var 0) (.cons (.bin .add (.cst (.int 1)) (.bin .md (.bi .int (.cons (.var 0) .nil)) (.cst (.int 1009)))) (.cons (.bi .int (.cons (.cmp .ge (.var 0) (.bin .pow (.cst (.int 10)) (.cst (.int 18)))) .nil)) .nil))))) .nil))
def f14 : Fn := ⟨1, 1, b14, false⟩
/-- _law_roll: 0=dice 1=many 2=found -/
def b15 : Ss := (.cons (.iff (.or_ (.cmp .eq (.idx (.var 0) (.cst (.int 2))) (.cst (.int 2))) (.and_ (.cmp .eq (.idx (.var 0) (.cst (.int 2))) (.cst (.int 1))) (.cmp .gt (.idx (.var 0) (.cst (.int 0))) (.cst (.int 0))))) (.cons (.asg (.var 2) (.bin .md (.bi .int (.cons (.idx (.var 0) (.cst (.int 0))) .nil)) (.var 1))) (.cons (.asg (.sub (.var 0) (.cst (.int 0))) (.bin .fdiv (.idx (.var 0) (.cst (.int 0))) (.var 1))) (.cons (.ret (.var 2)) .nil))) .nil) (.cons (.asg (.sub (.var 0) (.cst (.int 2))) (.cst (.int 0))) (.cons (.asg (.sub (.var 0) (.cst (.int 0))) (.bin .md (.bi .int (.cons (.bin .add (.bin .add (.bin .mul (.idx (.var 0) (.cst (.int 0))) (.cst (.int 48271))) (.bin .mul (.idx (.var 0) (.cst (.int 1))) (.cst (.int 69621)))) (.cst (.int 11))) .nil)) (.cst (.int 2147483647)))) (.cons (.asg (.sub (.var 0) (.cst (.int 1))) (.bin .add (.idx (.var 0) (.cst (.int 1))) (.cst (.int 1)))) (.cons (.ret (.bin .md (.bi .int (.cons (.bin .add (.bin .fdiv (.idx (.var 0) (.cst (.int 0))) (.cst (.int 7))) (.idx (.var 0) (.cst (.int 0)))) .nil)) (.var 1))) .nil)))))
def f15 : Fn := ⟨3, 2, b15, false⟩
/-- _law_rounds: 0=script 1=most 2=cells 3=cell -/
def b16 : Ss := (.cons (.asg (.var 2) (.slc (.var 0) .no (.so (.var 1)))) (.cons (.iff (.cmp .eq (.var 2) (.lst false .nil)) (.cons (.asg (.var 2) (.lst false (.cons (.cst (.int 0)) .nil))) .nil) .nil) (.cons (.ret (.comp false (.call 14 (.cons (.var 3) .nil)) (.var 3) (.seq (.var 2)) .nil)) .nil)))
def f16 : Fn := ⟨4, 2, b16, false⟩
/-- _law_told: 0=what -/
def b17 : Ss := (.cons (.tryy (.cons (.ret .thk) .nil) (.ret 1 (.str [97, 100, 100, 114, 101, 115, 115]) (.ret 3 (.str [99, 111, 117, 110, 116]) (.ret 2 (.str [102, 114, 97, 109, 101]) (.ret 4 (.str [114, 111, 119]) (.ret 5 (.str [110, 111, 32, 114, 111, 117, 116, 101]) (.ret 6 (.str [110, 111, 32, 115, 117, 99, 104]) (.ret 7 (.str [114, 101, 102, 117, 115, 101, 100]) (.ret 8 (.str [108, 97, 114, 103, 101]) (.ret 9 (.str [116, 101, 120, 116]) .nil)))))))))) .nil)
def f17 : Fn := ⟨1, 1, b17, false⟩
/-- _law_cases1:  -/
def b18 : Ss := (.cons (.iff (.cmp .ne (.lam 17 (.new 10 (.cons (.cst (.int 2)) (.cons (.cst (.int 1)) (.cons (.cst (.int 1)) .nil))))) (.cst (.str [99, 111, 117, 110, 116]))) (.cons (.ret (.cst (.bl false))) .nil) .nil) (.cons (.iff (.cmp .ne (.lam 17 (.new 11 (.cons (.cst (.int 0)) (.cons (.cst (.int 1)) (.cons (.cst (.int 1)) .nil))))) (.cst (.str [99, 111, 117, 110, 116]))) (.cons (.ret (.cst (.bl false))) .nil) .nil) (.cons (.ret (.cst (.bl true))) .nil)))
def f18 : Fn := ⟨0, 0, b18, false⟩
/-- _law_wrong: 0=lender -/
def b19 : Ss := (.cons (.iff (.cmp .ne (.lam 17 (.call 7 (.cons (.cst (.int 1)) (.cons (.cst (.int 1)) .nil)))) (.cst (.str [99, 111, 117, 110, 116]))) (.cons (.ret (.cst (.bl false))) .nil) .nil) (.cons (.iff (.cmp .notin (.lam 17 (.meth (.var 0) 10 (.cons (.cst (.str [122, 101, 100])) (.cons (.cst (.int 5)) (.cons (.cst (.int 0)) .nil))))) (.lst false (.cons (.cst (.str [114, 101, 102, 117, 115, 101, 100])) (.cons (.cst (.str [110, 111, 32, 115, 117, 99, 104])) .nil)))) (.cons (.ret (.cst (.bl false))) .nil) .nil) (.cons (.ret (.cst (.bl true))) .nil)))
def f19 : Fn := ⟨1, 1, b19, false⟩
/-- _law_rest1: 0=dice 1=many 2=time 3=lender 4=step 5=due 6=taken 7=long 8=gate 9=rows 10=moment 11=fixed 12=inner 13=far 14=used 15=free 16=port 17=fits 18=key -/
def b20 : Ss := (.cons (.asg (.tup (.cons (.var 6) (.cons (.var 7) .nil))) (.tup (.cons (.call 15 (.cons (.var 0) (.cons (.cst (.int 50)) .nil))) (.cons (.bin .add (.cst (.int 1)) (.call 15 (.cons (.var 0) (.cons (.cst (.int 90)) .nil)))) .nil)))) (.cons (.iff (.cmp .ne (.call 7 (.cons (.var 6) (.cons (.bin .add (.var 6) (.var 7)) .nil))) (.tup (.cons (.bin .add (.var 6) (.bin .fdiv (.var 7) (.cst (.int 2)))) (.cons (.bin .add (.var 6) (.bin .fdiv (.bin .mul (.var 7) (.cst (.int 7))) (.cst (.int 8)))) .nil)))) (.cons (.ret (.cst (.bl false))) .nil) .nil) (.cons (.asg (.tup (.cons (.var 8) (.cons (.var 9) (.cons (.var 10) (.cons (.var 11) .nil))))) (.tup (.cons (.new 11 (.cons (.cst (.int 50)) (.cons (.bin .add (.cst (.int 49)) (.var 1)) (.cons (.var 2) .nil)))) (.cons .dct0 (.cons (.cst (.int 0)) (.cons (.cmp .eq (.call 15 (.cons (.var 0) (.cons (.cst (.int 2)) .nil))) (.cst (.int 1))) .nil)))))) (.cons (.iff (.var 11) (.cons (.expr (.meth (.var 8) 11 (.cons (.cst (.int 90)) (.cons (.cst (.str [119, 101, 98])) (.cons (.cst (.int 80)) (.cons (.cst (.int 0)) .nil)))))) .nil) .nil) (.cons (.forr (.var 4) (.rng1 (.call 15 (.cons (.var 0) (.cons (.cst (.int 12)) .nil)))) (.cons (.asg (.tup (.cons (.var 10) (.cons (.var 12) (.cons (.var 13) .nil)))) (.tup (.cons (.bin .add (.var 10) (.call 15 (.cons (.var 0) (.cons (.cst (.int 4)) .nil)))) (.cons (.tup (.cons (.idx (.cst (.str [97, 98])) (.call 15 (.cons (.var 0) (.cons (.cst (.int 2)) .nil)))) (.cons (.bin .add (.cst (.int 1)) (.call 15 (.cons (.var 0) (.cons (.cst (.int 3)) .nil)))) .nil))) (.cons (.idx (.cst (.str [120, 121])) (.call 15 (.cons (.var 0) (.cons (.cst (.int 2)) .nil)))) .nil))))) (.cons (.asg (.var 9) (.bi .dict (.cons (.lkd 9 none (.comp false (.tup (.cons (.var 18) (.cons (.idx (.var 9) (.var 18)) .nil))) (.var 18) (.keys (.var 9)) (.cons (.cmp .lt (.bin .sub (.var 10) (.idx (.idx (.var 9) (.var 18)) (.cst (.int 1)))) (.var 2)) .nil))) .nil))) (.cons (.iff (.cmp .gt (.call 15 (.cons (.var 0) (.cons (.cst (.int 3)) .nil))) (.cst (.int 0))) (.cons (.lkd 9 none (.asg (.var 14) (.comp false (.idx (.idx (.var 9) (.var 18)) (.cst (.int 0))) (.var 18) (.keys (.var 9)) .nil))) (.cons (.asg (.var 15) (.comp false (.var 16) (.var 16) (.rng2 (.cst (.int 50)) (.bin .add (.cst (.int 50)) (.var 1))) (.cons (.cmp .notin (.var 16) (.var 14)) .nil))) (.cons (.asg (.var 16) (.ite (.cmp .isin (.var 12) (.var 9)) (.idx (.idx (.var 9) (.var 12)) (.cst (.int 0))) (.ite (.cmp .ne (.var 15) (.lst false .nil)) (.idx (.var 15) (.cst (.int 0))) (.cst (.str [108, 97, 114, 103, 101]))))) (.cons (.iff (.cmp .ne (.lam 17 (.meth (.var 8) 12 (.cons (.idx (.var 12) (.cst (.int 0))) (.cons (.idx (.var 12) (.cst (.int 1))) (.cons (.var 13) (.cons (.var 10) .nil)))))) (.var 16)) (.cons (.ret (.cst (.bl false))) .nil) .nil) (.cons (.iff (.cmp .ne (.var 16) (.cst (.str [108, 97, 114, 103, 101]))) (.cons (.asg (.sub (.var 9) (.var 12)) (.tup (.cons (.var 16) (.cons (.var 10) (.cons (.bin .add (.ite (.cmp .isin (.var 12) (.var 9)) (.idx (.idx (.var 9) (.var 12)) (.cst (.int 2))) (.lst false .nil)) (.lst false (.cons (.var 13) .nil))) .nil))))) .nil) .nil) .nil))))) (.cons (.asg (.var 16) (.bin .add (.cst (.int 50)) (.call 15 (.cons (.var 0) (.cons (.cst (.int 4)) .nil))))) (.cons (.asg (.var 17) (.comp false (.var 18) (.var 18) (.seq (.bi .sortT (.cons (.var 9) .nil))) (.cons (.and_ (.cmp .eq (.idx (.idx (.var 9) (.var 18)) (.cst (.int 0))) (.var 16)) (.cmp .isin (.var 13) (.idx (.idx (.var 9) (.var 18)) (.cst (.int 2))))) .nil))) (.cons (.iff (.cmp .ne (.lam 17 (.meth (.var 8) 13 (.cons (.var 16) (.cons (.var 13) (.cons (.var 10) .nil))))) (.ite (.cmp .ne (.var 17) (.lst false .nil)) (.idx (.var 17) (.cst (.int 0))) (.cst (.str [114, 101, 102, 117, 115, 101, 100])))) (.cons (.ret (.cst (.bl false))) .nil) .nil) (.cons (.iff (.cmp .ne (.var 17) (.lst false .nil)) (.cons (.asg (.sub (.var 9) (.idx (.var 17) (.cst (.int 0)))) (.tup (.cons (.var 16) (.cons (.var 10) (.cons (.idx (.idx (.var 9) (.idx (.var 17) (.cst (.int 0)))) (.cst (.int 2))) .nil))))) .nil) .nil) .nil))))) .nil)))) (.cons (.asg (.var 5) (.bin .add (.lkd 9 none (.comp false (.bin .add (.tup (.cons (.idx (.idx (.var 9) (.var 18)) (.cst (.int 0))) .nil)) (.var 18)) (.var 18) (.keys (.var 9)) (.cons (.cmp .lt (.bin .sub (.var 10) (.idx (.idx (.var 9) (.var 18)) (.cst (.int 1)))) (.var 2)) .nil))) (.ite (.var 11) (.lst false (.cons (.tup (.cons (.cst (.int 90)) (.cons (.cst (.str [119, 101, 98])) (.cons (.cst (.int 80)) .nil)))) .nil)) (.lst false .nil)))) (.cons (.iff (.cmp .ne (.bi (.list false) (.cons (.meth (.var 8) 14 (.cons (.var 10) .nil)) .nil)) (.bi .sortT (.cons (.var 5) .nil))) (.cons (.ret (.cst (.bl false))) .nil) .nil) (.cons (.iff (.and_ (.var 11) (.or_ (.cmp .ne (.meth (.var 8) 13 (.cons (.cst (.int 90)) (.cons (.cst (.str [97, 110, 121, 98, 111, 100, 121])) (.cons (.var 10) .nil)))) (.tup (.cons (.cst (.str [119, 101, 98])) (.cons (.cst (.int 80)) .nil)))) (.cmp .ne (.meth (.var 8) 12 (.cons (.cst (.str [119, 101, 98])) (.cons (.cst (.int 80)) (.cons (.cst (.str [120])) (.cons (.var 10) .nil))))) (.cst (.int 90))))) (.cons (.ret (.cst (.bl false))) .nil) .nil) (.cons (.iff (.and_ (.var 11) (.cmp .ne (.lam 17 (.meth (.var 8) 11 (.cons (.cst (.int 90)) (.cons (.cst (.str [97])) (.cons (.cst (.int 1)) (.cons (.var 10) .nil)))))) (.cst (.str [114, 101, 102, 117, 115, 101, 100])))) (.cons (.ret (.cst (.bl false))) .nil) .nil) (.cons (.iff (.not_ (.call 18 .nil)) (.cons (.ret (.cst (.bl false))) .nil) .nil) (.cons (.iff (.not_ (.call 19 (.cons (.var 3) .nil))) (.cons (.ret (.cst (.bl false))) .nil) .nil) (.cons (.ret (.cst (.bl true))) .nil))))))))))))
def f20 : Fn := ⟨19, 4, b20, false⟩
/-- law: 0=script 1=dice 2=step 3=many 4=time 5=lender 6=lent 7=had 8=moment 9=held 10=free 11=mine 12=fresh 13=due 14=who 15=sort 16=name 17=address 18=told -/
def b21 : Ss := (.cons (.forr (.var 1) (.seq (.call 16 (.cons (.var 0) (.cons (.cst (.int 1)) .nil)))) (.cons (.asg (.tup (.cons (.var 3) (.cons (.var 4) .nil))) (.tup (.cons (.bin .add (.cst (.int 1)) (.call 15 (.cons (.var 1) (.cons (.cst (.int 4)) .nil)))) (.cons (.bin .add (.cst (.int 1)) (.call 15 (.cons (.var 1) (.cons (.cst (.int 9)) .nil)))) .nil)))) (.cons (.asg (.tup (.cons (.var 5) (.cons (.var 6) (.cons (.var 7) (.cons (.var 8) .nil))))) (.tup (.cons (.new 10 (.cons (.cst (.int 10)) (.cons (.bin .add (.cst (.int 9)) (.var 3)) (.cons (.var 4) .nil)))) (.cons .dct0 (.cons .dct0 (.cons (.cst (.int 0)) .nil)))))) (.cons (.forr (.var 2) (.rng1 (.call 15 (.cons (.var 1) (.cons (.cst (.int 12)) .nil)))) (.cons (.asg (.tup (.cons (.var 8) (.cons (.var 14) (.cons (.var 15) .nil)))) (.tup (.cons (.bin .add (.var 8) (.call 15 (.cons (.var 1) (.cons (.cst (.int 4)) .nil)))) (.cons (.idx (.cst (.str [97, 98, 99, 100, 101])) (.call 15 (.cons (.var 1) (.cons (.cst (.int 5)) .nil)))) (.cons (.call 15 (.cons (.var 1) (.cons (.cst (.int 4)) .nil))) .nil))))) (.cons (.asg (.var 9) (.comp false (.idx (.idx (.var 6) (.var 16)) (.cst (.int 0))) (.var 16) (.seq (.bi .sortS (.cons (.var 6) .nil))) (.cons (.cmp .gt (.idx (.idx (.var 6) (.var 16)) (.cst (.int 1))) (.var 8)) .nil))) (.cons (.asg (.var 10) (.comp false (.var 17) (.var 17) (.rng2 (.cst (.int 10)) (.bin .add (.cst (.int 10)) (.var 3))) (.cons (.cmp .notin (.var 17) (.var 9)) .nil))) (.cons (.iff (.cmp .ne (.bi (.list false) (.cons (.meth (.var 5) 5 (.cons (.var 8) .nil)) .nil)) (.var 10)) (.cons (.ret (.cst (.bl false))) .nil) .nil) (.cons (.asg (.var 11) (.ite (.and_ (.cmp .isin (.var 14) (.var 6)) (.cmp .gt (.idx (.idx (.var 6) (.var 14)) (.cst (.int 1))) (.var 8))) (.idx (.idx (.var 6) (.var 14)) (.cst (.int 0))) (.cst .non))) (.cons (.asg (.var 12) (.comp false (.var 17) (.var 17) (.seq (.var 10)) (.cons (.inV false (.var 17) (.var 7)) .nil))) (.cons (.asg (.var 13) (.ite (.isN false (.var 11)) (.var 11) (.ite (.cmp .eq (.var 10) (.lst false .nil)) (.cst (.str [110, 111, 32, 115, 117, 99, 104])) (.ite (.cmp .isin (.dget (.var 7) (.var 14) (.cst (.int 0))) (.var 10)) (.idx (.var 7) (.var 14)) (.idx (.bin .add (.var 12) (.var 10)) (.cst (.int 0))))))) (.cons (.iff (.cmp .ne (.lam 17 (.meth (.var 5) 6 (.cons (.var 14) (.cons (.var 8) .nil)))) (.var 13)) (.cons (.ret (.cst (.bl false))) .nil) .nil) (.cons (.iff (.and_ (.cmp .lt (.var 15) (.cst (.int 2))) (.cmp .ne (.var 13) (.cst (.str [110, 111, 32, 115, 117, 99, 104])))) (.cons (.iff (.cmp .ne (.meth (.var 5) 10 (.cons (.var 14) (.cons (.var 13) (.cons (.var 8) .nil)))) (.bin .add (.var 8) (.var 4))) (.cons (.ret (.cst (.bl false))) .nil) .nil) (.cons (.asg (.tup (.cons (.sub (.var 6) (.var 14)) (.cons (.sub (.var 7) (.var 14)) .nil))) (.tup (.cons (.tup (.cons (.var 13) (.cons (.bin .add (.var 8) (.var 4)) .nil))) (.cons (.var 13) .nil)))) .nil)) (.cons (.iff (.cmp .eq (.var 15) (.cst (.int 2))) (.cons (.asg (.var 18) (.lam 17 (.meth (.var 5) 15 (.cons (.var 14) (.cons (.var 8) .nil))))) (.cons (.iff (.cmp .ne (.var 18) (.ite (.isN false (.var 11)) (.bin .add (.var 8) (.var 4)) (.cst (.str [114, 101, 102, 117, 115, 101, 100])))) (.cons (.ret (.cst (.bl false))) .nil) .nil) (.cons (.iff (.isN false (.var 11)) (.cons (.asg (.sub (.var 6) (.var 14)) (.tup (.cons (.var 11) (.cons (.bin .add (.var 8) (.var 4)) .nil)))) .nil) .nil) .nil))) (.cons (.iff (.cmp .eq (.var 15) (.cst (.int 3))) (.cons (.asg (.var 18) (.lam 17 (.meth (.var 5) 16 (.cons (.var 14) .nil)))) (.cons (.iff (.cmp .ne (.cmp .eq (.var 18) (.cst (.str [110, 111, 32, 115, 117, 99, 104]))) (.cmp .notin (.var 14) (.var 6))) (.cons (.ret (.cst (.bl false))) .nil) .nil) (.cons (.asg (.var 6) (.bi .dict (.cons (.lkd 6 none (.comp false (.tup (.cons (.var 16) (.cons (.idx (.var 6) (.var 16)) .nil))) (.var 16) (.keys (.var 6)) (.cons (.cmp .ne (.var 16) (.var 14)) .nil))) .nil))) .nil))) .nil) .nil)) .nil)) .nil)))))))))) (.cons (.iff (.cmp .ne (.bi (.list false) (.cons (.meth (.var 5) 17 (.cons (.var 8) .nil)) .nil)) (.bi .sortT (.cons (.lkd 6 none (.comp false (.tup (.cons (.idx (.idx (.var 6) (.var 16)) (.cst (.int 0))) (.cons (.var 16) .nil))) (.var 16) (.keys (.var 6)) (.cons (.cmp .gt (.idx (.idx (.var 6) (.var 16)) (.cst (.int 1))) (.var 8)) .nil))) .nil))) (.cons (.ret (.cst (.bl false))) .nil) .nil) (.cons (.iff (.cmp .ne (.bi .len (.cons (.bi .dict (.cons (.comp false (.tup (.cons (.var 17) (.cons (.cst (.int 1)) .nil))) (.tup (.cons (.var 17) (.cons (.var 16) .nil))) (.seq (.meth (.var 5) 17 (.cons (.var 8) .nil))) .nil) .nil)) .nil)) (.bi .len (.cons (.meth (.var 5) 17 (.cons (.var 8) .nil)) .nil))) (.cons (.ret (.cst (.bl false))) .nil) .nil) (.cons (.iff (.not_ (.call 20 (.cons (.var 1) (.cons (.var 3) (.cons (.var 4) (.cons (.var 5) .nil)))))) (.cons (.ret (.cst (.bl false))) .nil) .nil) .nil))))))) (.cons (.ret (.cst (.bl true))) .nil))
def f21 : Fn := ⟨19, 1, b21, false⟩
end L

end

section
set_option linter.all false
namespace L
open Mn
structure PgF (P : Pg) : Prop where
  n0 : P.fns 0 = some f0
  n1 : P.fns 1 = some f1
  n2 : P.fns 2 = some f2
  n3 : P.fns 3 = some f3
  n4 : P.fns 4 = some f4
  n5 : P.fns 5 = some f5
  n6 : P.fns 6 = some f6
  n7 : P.fns 7 = some f7
  n8 : P.fns 8 = some f8
  n9 : P.fns 9 = some f9
  n10 : P.fns 10 = some f10
  n11 : P.fns 11 = some f11
  n12 : P.fns 12 = some f12
  n13 : P.fns 13 = some f13
  n14 : P.fns 14 = some f14
  n15 : P.fns 15 = some f15
  n16 : P.fns 16 = some f16
  n17 : P.fns 17 = some f17
  n18 : P.fns 18 = some f18
  n19 : P.fns 19 = some f19
  n20 : P.fns 20 = some f20
  n21 : P.fns 21 = some f21
  all : P.xfl 0 = none ∧ P.xfl 1 = none ∧ P.xfl 2 = none ∧ P.xfl 3 = none ∧ P.xfl 4 = none ∧ P.xfl 5 = none ∧ P.xfl 6 = none ∧ P.xfl 7 = none ∧ P.xfl 8 = none ∧ P.xfl 9 = none ∧ P.ini 10 = 0 ∧ P.frz 10 = false ∧ P.mth 10 5 = some 1 ∧ P.mth 10 6 = some 2 ∧ P.mth 10 10 = some 3 ∧ P.mth 10 15 = some 4 ∧ P.mth 10 16 = some 5 ∧ P.mth 10 17 = some 6 ∧ P.nat 10 0 = true ∧ P.nat 10 1 = true ∧ P.nat 10 2 = true ∧ P.nat 10 3 = true ∧ P.nat 10 4 = true ∧ P.ini 11 = 8 ∧ P.frz 11 = false ∧ P.mth 11 11 = some 9 ∧ P.mth 11 12 = some 10 ∧ P.mth 11 13 = some 11 ∧ P.mth 11 9 = some 12 ∧ P.mth 11 14 = some 13 ∧ P.nat 11 0 = true ∧ P.nat 11 1 = true ∧ P.nat 11 2 = true ∧ P.nat 11 7 = true ∧ P.nat 11 8 = true ∧ P.sub 0 1 = some false ∧ P.sub 0 3 = some false ∧ P.sub 0 2 = some false ∧ P.sub 0 4 = some false ∧ P.sub 0 5 = some false ∧ P.sub 0 6 = some false ∧ P.sub 0 7 = some false ∧ P.sub 0 8 = some false ∧ P.sub 0 9 = some false ∧ P.sub 1 1 = some true ∧ P.sub 1 3 = some false ∧ P.sub 1 2 = some false ∧ P.sub 1 4 = some false ∧ P.sub 1 5 = some false ∧ P.sub 1 6 = some false ∧ P.sub 1 7 = some false ∧ P.sub 1 8 = some false ∧ P.sub 1 9 = some false ∧ P.sub 2 1 = some false ∧ P.sub 2 3 = some false ∧ P.sub 2 2 = some true ∧ P.sub 2 4 = some false ∧ P.sub 2 5 = some false ∧ P.sub 2 6 = some false ∧ P.sub 2 7 = some false ∧ P.sub 2 8 = some false ∧ P.sub 2 9 = some false ∧ P.sub 3 1 = some false ∧ P.sub 3 3 = some true ∧ P.sub 3 2 = some false ∧ P.sub 3 4 = some false ∧ P.sub 3 5 = some false ∧ P.sub 3 6 = some false ∧ P.sub 3 7 = some false ∧ P.sub 3 8 = some false ∧ P.sub 3 9 = some false ∧ P.sub 4 1 = some false ∧ P.sub 4 3 = some false ∧ P.sub 4 2 = some false ∧ P.sub 4 4 = some true ∧ P.sub 4 5 = some false ∧ P.sub 4 6 = some false ∧ P.sub 4 7 = some false ∧ P.sub 4 8 = some false ∧ P.sub 4 9 = some false ∧ P.sub 5 1 = some false ∧ P.sub 5 3 = some false ∧ P.sub 5 2 = some false ∧ P.sub 5 4 = some false ∧ P.sub 5 5 = some true ∧ P.sub 5 6 = some false ∧ P.sub 5 7 = some false ∧ P.sub 5 8 = some false ∧ P.sub 5 9 = some false ∧ P.sub 6 1 = some false ∧ P.sub 6 3 = some false ∧ P.sub 6 2 = some false ∧ P.sub 6 4 = some false ∧ P.sub 6 5 = some false ∧ P.sub 6 6 = some true ∧ P.sub 6 7 = some false ∧ P.sub 6 8 = some false ∧ P.sub 6 9 = some false ∧ P.sub 7 1 = some false ∧ P.sub 7 3 = some false ∧ P.sub 7 2 = some false ∧ P.sub 7 4 = some false ∧ P.sub 7 5 = some false ∧ P.sub 7 6 = some false ∧ P.sub 7 7 = some true ∧ P.sub 7 8 = some false ∧ P.sub 7 9 = some false ∧ P.sub 8 1 = some false ∧ P.sub 8 3 = some false ∧ P.sub 8 2 = some false ∧ P.sub 8 4 = some false ∧ P.sub 8 5 = some false ∧ P.sub 8 6 = some false ∧ P.sub 8 7 = some false ∧ P.sub 8 8 = some true ∧ P.sub 8 9 = some false ∧ P.sub 9 1 = some false ∧ P.sub 9 3 = some false ∧ P.sub 9 2 = some false ∧ P.sub 9 4 = some false ∧ P.sub 9 5 = some false ∧ P.sub 9 6 = some false ∧ P.sub 9 7 = some false ∧ P.sub 9 8 = some false ∧ P.sub 9 9 = some true
end L

end

section
set_option Elab.async false
set_option linter.all false
set_option maxRecDepth 100000
set_option maxHeartbeats 2000000
namespace L
open Mn
local macro_rules | `(tactic| push_cast [$as,*]) => `(tactic| simp only [↓wv_cst, ↓wv_var, ↓wv_bin, ↓wv_neg, ↓wv_cmp, ↓wv_chn, ↓wv_isN, ↓wv_and, ↓wv_or, ↓wv_not, ↓wv_ite, ↓wv_tup, ↓wv_lst, ↓wv_dct0, ↓wv_fld, ↓wv_idx, ↓wv_slc, ↓wv_call, ↓wv_new, ↓wv_meth, ↓wv_bi, ↓wv_bm, ↓wv_comp, ↓wc_compG, ↓wv_lkd, ↓wv_inV, ↓wv_litems, ↓wv_dget, ↓wv_lam, ↓wv_thk, ↓ws_nil, ↓ws_cons, ↓wt_nil, ↓wt_cons, ↓wq_no, ↓wq_so, ↓wi_seq, ↓wi_rng1, ↓wi_rng2, ↓wi_enum, ↓wi_keys, ↓wi_vals, ↓wi_items, ↓wg_var, ↓wg_tup, ↓wg_sub, ↓wg_fld, ↓wgs_nil, ↓wgs_cons, ↓wx_expr, ↓wx_asg, ↓wx_aug, ↓wx_augF, ↓wx_augS, ↓wx_ret, ↓wx_ret0, ↓wx_iff, ↓wx_forr, ↓wx_forB, ↓wx_whil, ↓wx_whilT, ↓wx_whilB, ↓wx_tryy, ↓wx_del, ↓wo_delM, ↓wx_rais, ↓wx_brk, ↓wx_cnt, ↓wx_pass, ↓wx_lkd, ↓wxs_nil, ↓wxs_cons, ↓wp_ret, ↓wp_bind, ↓wp_of, ↓wp_ofs, ↓wp_op, ↓wp_calm, ↓wp_get, ↓wp_no, ↓wo_toO, ↓wo_seq, ↓wo_end, ↓wp_make, ↓bindK_ok, ↓bindK_er, ↓toOK_ok, ↓toOK_er, ↓seqK_nx, ↓seqK_rt, ↓seqK_bk, ↓seqK_ct, ↓seqK_ex, ↓calmK_ok, ↓retK_nx, ↓retK_rt, ↓retK_rtf, ↓retK_ex, ↓makeK_non, ↓makeK_nonf, ↓makeK_er, ↓tryK_ex, ↓tryK_nx, ↓tryK_rt, ↓tryK_bk, ↓tryK_ct, ↓ifK_t, ↓ifK_f, ↓turnK_nx, ↓turnK_ct, ↓turnK_bk, ↓turnK_rt, ↓turnK_ex, ↓whilK_nx, ↓whilK_ct, ↓whilK_bk, ↓whilK_rt, ↓whilK_ex, w1_some, w1_of, w1_ret, w1_ite, kcW, setE, wipeE, tgSlots, tgsSlots, List.getElem?_cons_zero, List.getElem?_cons_succ, Option.join_some, List.set_cons_zero, List.set_cons_succ, List.append_eq, b2_addI, b2_subI, b2_mulI, b2_fdivI, b2_mdI, b2_powI, b2_addT, b2_addS, b2_addL, c2_eq, c2_ne, c2_lt, c2_le, c2_gt, c2_ge, c2_in, c2_nin, Option.map_some, Option.bind_some, eqc_ii, eqc_ss, eqc_ints, eqc_intsT, eqc_ints0, eqc_intsT0, eqc_nilL, eqc_nilT, eqc_bb, eqc_is, eqc_si, eqc_ns, eqc_sn, eqc_nn, eqc_ni, eqc_in, List.all_cons, List.all_nil, tru_b, tru_i, mtru, biW_int, biW_intb, biW_abs, biW_min2, biW_max2, List.map_cons, List.map_nil, List.length_cons, List.length_nil, List.cons_append, List.nil_append, List.replicate_succ, List.replicate_zero, decide_true, decide_false, decide_eq_true_eq, if_true, if_false, ite_true, ite_false, Bool.not_true, Bool.not_false, reduceIte, and_true, true_and, false_and, and_false, ne_eq, not_true_eq_false, not_false_eq_true, Nat.zero_add, Bool.false_eq_true, reduceCtorEq, decide_not, Nat.sub_zero, eq_self, and_self, valsV_enc, keysV_enc, itemsV_enc, Nat.add_one_sub_one, smallI_eq, smallR_eq, seqOf, lstOf, forall_const, Bool.and_true, Bool.true_and, Bool.or_true, Bool.true_or, Bool.or_false, Bool.false_or, Bool.or_eq_true, Bool.and_eq_true, seval, idx_ref, idxR_lst, idxR_dct, idx_lst, idx_tup, idx_str, idx_dct, atI_0, atI_1, atI_2, atI_3, fld_ref, fldR_ins, getF_cons, getF_nil, putF_cons, putF_nil, stF_ref, stFR_ins, meth_ref, methR_ins, stS_ref, stSR_lst, stSR_dct, toKy_i, toKy_s, toKy_si, toKy_ss, toKy_ii, in_ref, inR_dct, inV_ref, in_ints, in_intsT, del_ref, dctOf_ref, dctR_dct, get2_eq, get2R_some, Option.getD_some, Option.getD_none, delR_S, delR_I, wd_some, leLine_t, ltLine_t, vw_ref, vwR_dct, unlkR, lockK_r, lockO_rt, lockO_nx, slc_lst, slc_tup, slc_str, cutL_1, len_lst, len_tup, len_str, tuple_lst, tuple_tup, list_tup, list_lst, mkL_f, mkL_t, dict_lst, listd_eq, listdR_some, src_lst, src_tup, src_str, src_ref, set_get, new_get, set_nxt, new_nxt, set_set, getK_S, getK_I, getK_SI, getK_SS, kyOk_S, kyOk_I, kyOk_SI, kyOk_SS, delK_S, delK_I, kyW_S, kyW_I, kyW_SI, kyW_SS, Option.isSome_map, Option.isSome_none, Option.isSome_some, Option.map_none, Option.bind_none, inVR_enc, List.append_nil, $as,*])
local macro_rules | `(tactic| simp? [$as,*]) => `(tactic| simp only [↓wv_cst, ↓wv_var, ↓wv_bin, ↓wv_neg, ↓wv_cmp, ↓wv_chn, ↓wv_isN, ↓wv_and, ↓wv_or, ↓wv_not, ↓wv_ite, ↓wv_tup, ↓wv_lst, ↓wv_dct0, ↓wv_fld, ↓wv_idx, ↓wv_slc, ↓wv_call, ↓wv_new, ↓wv_meth, ↓wv_bi, ↓wv_bm, ↓wv_comp, ↓wc_compG, ↓wv_lkd, ↓wv_inV, ↓wv_litems, ↓wv_dget, ↓wv_lam, ↓wv_thk, ↓ws_nil, ↓ws_cons, ↓wt_nil, ↓wt_cons, ↓wq_no, ↓wq_so, ↓wi_seq, ↓wi_rng1, ↓wi_rng2, ↓wi_enum, ↓wi_keys, ↓wi_vals, ↓wi_items, ↓wg_var, ↓wg_tup, ↓wg_sub, ↓wg_fld, ↓wgs_nil, ↓wgs_cons, ↓wx_expr, ↓wx_asg, ↓wx_aug, ↓wx_augF, ↓wx_augS, ↓wx_ret, ↓wx_ret0, ↓wx_iff, ↓wx_forr, ↓wx_forB, ↓wx_whil, ↓wx_whilT, ↓wx_whilB, ↓wx_tryy, ↓wx_del, ↓wo_delM, ↓wx_rais, ↓wx_brk, ↓wx_cnt, ↓wx_pass, ↓wx_lkd, ↓wxs_nil, ↓wxs_cons, ↓wp_ret, ↓wp_bind, ↓wp_of, ↓wp_ofs, ↓wp_op, ↓wp_calm, ↓wp_get, ↓wp_no, ↓wo_toO, ↓wo_seq, ↓wo_end, ↓wp_make, ↓bindK_ok, ↓bindK_er, ↓toOK_ok, ↓toOK_er, ↓seqK_rt, ↓seqK_bk, ↓seqK_ct, ↓seqK_ex, ↓calmK_ok, ↓retK_nx, ↓retK_rt, ↓retK_rtf, ↓retK_ex, ↓makeK_non, ↓makeK_nonf, ↓makeK_er, ↓tryK_ex, ↓tryK_nx, ↓tryK_rt, ↓tryK_bk, ↓tryK_ct, ↓ifK_t, ↓ifK_f, ↓turnK_nx, ↓turnK_ct, ↓turnK_bk, ↓turnK_rt, ↓turnK_ex, ↓whilK_nx, ↓whilK_ct, ↓whilK_bk, ↓whilK_rt, ↓whilK_ex, w1_some, w1_of, w1_ret, w1_ite, kcW, setE, wipeE, tgSlots, tgsSlots, List.getElem?_cons_zero, List.getElem?_cons_succ, Option.join_some, List.set_cons_zero, List.set_cons_succ, List.append_eq, b2_addI, b2_subI, b2_mulI, b2_fdivI, b2_mdI, b2_powI, b2_addT, b2_addS, b2_addL, c2_eq, c2_ne, c2_lt, c2_le, c2_gt, c2_ge, c2_in, c2_nin, Option.map_some, Option.bind_some, eqc_ii, eqc_ss, eqc_ints, eqc_intsT, eqc_ints0, eqc_intsT0, eqc_nilL, eqc_nilT, eqc_bb, eqc_is, eqc_si, eqc_ns, eqc_sn, eqc_nn, eqc_ni, eqc_in, List.all_cons, List.all_nil, tru_b, tru_i, mtru, biW_int, biW_intb, biW_abs, biW_min2, biW_max2, List.map_cons, List.map_nil, List.length_cons, List.length_nil, List.cons_append, List.nil_append, List.replicate_succ, List.replicate_zero, decide_true, decide_false, decide_eq_true_eq, if_true, if_false, ite_true, ite_false, Bool.not_true, Bool.not_false, reduceIte, and_true, true_and, false_and, and_false, ne_eq, not_true_eq_false, not_false_eq_true, Nat.zero_add, Bool.false_eq_true, reduceCtorEq, decide_not, Nat.sub_zero, eq_self, and_self, valsV_enc, keysV_enc, itemsV_enc, Nat.add_one_sub_one, smallI_eq, smallR_eq, seqOf, lstOf, forall_const, Bool.and_true, Bool.true_and, Bool.or_true, Bool.true_or, Bool.or_false, Bool.false_or, Bool.or_eq_true, Bool.and_eq_true, seval, idx_ref, idxR_lst, idxR_dct, idx_lst, idx_tup, idx_str, idx_dct, atI_0, atI_1, atI_2, atI_3, fld_ref, fldR_ins, getF_cons, getF_nil, putF_cons, putF_nil, stF_ref, stFR_ins, meth_ref, methR_ins, stS_ref, stSR_lst, stSR_dct, toKy_i, toKy_s, toKy_si, toKy_ss, toKy_ii, in_ref, inR_dct, inV_ref, in_ints, in_intsT, del_ref, dctOf_ref, dctR_dct, get2_eq, get2R_some, Option.getD_some, Option.getD_none, delR_S, delR_I, wd_some, leLine_t, ltLine_t, vw_ref, vwR_dct, unlkR, lockK_r, lockO_rt, lockO_nx, slc_lst, slc_tup, slc_str, cutL_1, len_lst, len_tup, len_str, tuple_lst, tuple_tup, list_tup, list_lst, mkL_f, mkL_t, dict_lst, listd_eq, listdR_some, src_lst, src_tup, src_str, src_ref, set_get, new_get, set_nxt, new_nxt, set_set, getK_S, getK_I, getK_SI, getK_SS, kyOk_S, kyOk_I, kyOk_SI, kyOk_SS, delK_S, delK_I, kyW_S, kyW_I, kyW_SI, kyW_SS, Option.isSome_map, Option.isSome_none, Option.isSome_some, Option.map_none, Option.bind_none, inVR_enc, List.append_nil, $as,*])
local macro_rules | `(tactic| dsimp? [$as,*]) => `(tactic| simp only [↓wv_cst, ↓wv_var, ↓wv_bin, ↓wv_neg, ↓wv_cmp, ↓wv_chn, ↓wv_isN, ↓wv_and, ↓wv_or, ↓wv_not, ↓wv_ite, ↓wv_tup, ↓wv_lst, ↓wv_dct0, ↓wv_fld, ↓wv_idx, ↓wv_slc, ↓wv_call, ↓wv_new, ↓wv_meth, ↓wv_bi, ↓wv_bm, ↓wv_comp, ↓wc_compG, ↓wv_lkd, ↓wv_inV, ↓wv_litems, ↓wv_dget, ↓wv_lam, ↓wv_thk, ↓ws_nil, ↓ws_cons, ↓wt_nil, ↓wt_cons, ↓wq_no, ↓wq_so, ↓wi_seq, ↓wi_rng1, ↓wi_rng2, ↓wi_enum, ↓wi_keys, ↓wi_vals, ↓wi_items, ↓wg_var, ↓wg_tup, ↓wg_sub, ↓wg_fld, ↓wgs_nil, ↓wgs_cons, ↓wx_expr, ↓wx_asg, ↓wx_aug, ↓wx_augF, ↓wx_augS, ↓wx_ret, ↓wx_ret0, ↓wx_iff, ↓wx_forr, ↓wx_forB, ↓wx_whil, ↓wx_whilT, ↓wx_whilB, ↓wx_tryy, ↓wx_del, ↓wo_delM, ↓wx_rais, ↓wx_brk, ↓wx_cnt, ↓wx_pass, ↓wx_lkd, ↓wxs_nil, ↓wp_ret, ↓wp_bind, ↓wp_of, ↓wp_ofs, ↓wp_op, ↓wp_calm, ↓wp_get, ↓wp_no, ↓wo_toO, ↓wo_seq, ↓wo_end, ↓wp_make, ↓bindK_ok, ↓bindK_er, ↓toOK_ok, ↓toOK_er, ↓seqK_nx, ↓seqK_rt, ↓seqK_bk, ↓seqK_ct, ↓seqK_ex, ↓calmK_ok, ↓retK_nx, ↓retK_rt, ↓retK_rtf, ↓retK_ex, ↓makeK_non, ↓makeK_nonf, ↓makeK_er, ↓tryK_ex, ↓tryK_nx, ↓tryK_rt, ↓tryK_bk, ↓tryK_ct, ↓ifK_t, ↓ifK_f, ↓turnK_nx, ↓turnK_ct, ↓turnK_bk, ↓turnK_rt, ↓turnK_ex, ↓whilK_nx, ↓whilK_ct, ↓whilK_bk, ↓whilK_rt, ↓whilK_ex, w1_some, w1_of, w1_ret, w1_ite, kcW, setE, wipeE, tgSlots, tgsSlots, List.getElem?_cons_zero, List.getElem?_cons_succ, Option.join_some, List.set_cons_zero, List.set_cons_succ, List.append_eq, b2_addI, b2_subI, b2_mulI, b2_fdivI, b2_mdI, b2_powI, b2_addT, b2_addS, b2_addL, c2_eq, c2_ne, c2_lt, c2_le, c2_gt, c2_ge, c2_in, c2_nin, Option.map_some, Option.bind_some, eqc_ii, eqc_ss, eqc_ints, eqc_intsT, eqc_ints0, eqc_intsT0, eqc_nilL, eqc_nilT, eqc_bb, eqc_is, eqc_si, eqc_ns, eqc_sn, eqc_nn, eqc_ni, eqc_in, List.all_cons, List.all_nil, tru_b, tru_i, mtru, biW_int, biW_intb, biW_abs, biW_min2, biW_max2, List.map_cons, List.map_nil, List.length_cons, List.length_nil, List.cons_append, List.nil_append, List.replicate_succ, List.replicate_zero, decide_true, decide_false, decide_eq_true_eq, if_true, if_false, ite_true, ite_false, Bool.not_true, Bool.not_false, reduceIte, and_true, true_and, false_and, and_false, ne_eq, not_true_eq_false, not_false_eq_true, Nat.zero_add, Bool.false_eq_true, reduceCtorEq, decide_not, Nat.sub_zero, eq_self, and_self, valsV_enc, keysV_enc, itemsV_enc, Nat.add_one_sub_one, smallI_eq, smallR_eq, seqOf, lstOf, forall_const, Bool.and_true, Bool.true_and, Bool.or_true, Bool.true_or, Bool.or_false, Bool.false_or, Bool.or_eq_true, Bool.and_eq_true, seval, idx_ref, idxR_lst, idxR_dct, idx_lst, idx_tup, idx_str, idx_dct, atI_0, atI_1, atI_2, atI_3, fld_ref, fldR_ins, getF_cons, getF_nil, putF_cons, putF_nil, stF_ref, stFR_ins, meth_ref, methR_ins, stS_ref, stSR_lst, stSR_dct, toKy_i, toKy_s, toKy_si, toKy_ss, toKy_ii, in_ref, inR_dct, inV_ref, in_ints, in_intsT, del_ref, dctOf_ref, dctR_dct, get2_eq, get2R_some, Option.getD_some, Option.getD_none, delR_S, delR_I, wd_some, leLine_t, ltLine_t, vw_ref, vwR_dct, unlkR, lockK_r, lockO_rt, lockO_nx, slc_lst, slc_tup, slc_str, cutL_1, len_lst, len_tup, len_str, tuple_lst, tuple_tup, list_tup, list_lst, mkL_f, mkL_t, dict_lst, listd_eq, listdR_some, src_lst, src_tup, src_str, src_ref, set_get, new_get, set_nxt, new_nxt, set_set, getK_S, getK_I, getK_SI, getK_SS, kyOk_S, kyOk_I, kyOk_SI, kyOk_SS, delK_S, delK_I, kyW_S, kyW_I, kyW_SI, kyW_SS, Option.isSome_map, Option.isSome_none, Option.isSome_some, Option.map_none, Option.bind_none, inVR_enc, List.append_nil, $as,*])
variable {P : Pg} (hP : PgF P)
include hP
theorem roll_wp {j : Nat} {s : Sto} {n : Nat} {a b k m : Int} {Q : KM W} (h : s.get n = some (.lst [.int a, .int b, .int k])) (hm : 0 < m) (hm2 : m < 2 ^ 64)
    (q : ∀ r a b k, 0 ≤ r → r < m → Q (.ok (.int r)) (s.set n (.lst [.int a, .int b, .int k]))) : Wp (atT (tower P (j + 1)) 0 15 [.ref n, .int m] none) s Q := by
  rw [at0, wp_run hP.n15 rfl]
  push_cast [f15, b15, h]
  have z := Int.emod_nonneg
  have l := Int.emod_lt_of_pos
  by_cases h1 : k = 2
  · push_cast [h1, h]
    exact ⟨hm, ⟨hm, hm2⟩, q _ _ _ _ (Int.emod_nonneg _ (by omega)) (Int.emod_lt_of_pos _ hm)⟩
  · by_cases h2 : k = 1
    · by_cases h3 : 0 < a
      · push_cast [h1, h2, h3, h]
        exact ⟨hm, ⟨hm, hm2⟩, q _ _ _ _ (Int.emod_nonneg _ (by omega)) (Int.emod_lt_of_pos _ hm)⟩
      · push_cast [h1, h2, h3, h]
        exact ⟨hm, q _ _ _ _ (Int.emod_nonneg _ (by omega)) (Int.emod_lt_of_pos _ hm)⟩
    · push_cast [h1, h2, h]
      exact ⟨hm, q _ _ _ _ (Int.emod_nonneg _ (by omega)) (Int.emod_lt_of_pos _ hm)⟩
abbrev Nm := List Nat
abbrev Lt := List (Nm × (Int × Int))
abbrev Hd := List (Nm × Int)
def eL (v : Int × Int) : W := .tup [.int v.1, .int v.2]
def heldL (l : Lt) (m : Int) : List Int := (l.filter fun p => decide (m < p.2.2)).map fun p => p.2.1
def freeL (many : Int) (l : Lt) (m : Int) : List Int := (rangeI 10 many.toNat).filter fun a => !decide (a ∈ heldL l m)
structure Ln (s : Sto) (many time : Int) (l : Lt) (h : Hd) : Prop where
  a : s.get 1 = some (.ins 10 [(0, .int 10), (1, .int (9 + many)), (2, .int time), (3, .ref 2), (4, .ref 3)])
  b : s.get 2 = some (.dct false (encD eS eL l))
  c : s.get 3 = some (.dct false (encD eS W.int h))
theorem free_wp {j : Nat} {s : Sto} {many time m : Int} {l : Lt} {h : Hd} {Q : KM W} (H : Ln s many time l h) (hm : 1 ≤ many ∧ many ≤ 4) (hl : l.length ≤ 5)
    (q : Q (.ok (.tup ((freeL many l m).map .int))) s) : Wp (atT (tower P (j + 1)) 0 1 [.ref 1, .int m] none) s Q := by
  have h1 := H.a; have h2 := H.b; have h3 := H.c
  rw [at0, wp_run hP.n1 rfl]
  push_cast [f1, b1, hP.all]
  rw [wo_lock (n := 2) (kvs := encD eS eL l) (by simp [lkN, insOf, getF, h1, h2])]
  push_cast [hP.all, h1, h2]
  refine wp_comp (inj := fun p : Nm × (Int × Int) => eL p.2) (p := fun p => decide (m < p.2.2)) (emb := .int) (g := fun p => p.2.1) l (heldL l m) rfl rfl ?_ (by simp [set_get, beqD_self]) ?_
  · rintro ⟨n, a, u⟩ hx
    by_cases c : m < u
    all_goals push_cast [eL, c]
  push_cast [hP.all, h1, h2, set_self h2]
  have e1 : (9 + many + 1 - 10).toNat = many.toNat := by omega
  have e2 : (heldL l m).length ≤ 5 := by
    unfold heldL
    rw [List.length_map]
    exact Nat.le_trans (List.length_filter_le _ _) hl
  refine ⟨by rw [List.length_map]; exact le_line (by omega), ⟨by omega, by omega⟩, ?_⟩
  refine wp_comp (inj := .int) (p := fun a => !decide (a ∈ heldL l m)) (emb := .int) (g := fun a => a) (rangeI 10 many.toNat) (freeL many l m) (by rw [e1, rangeL_eq]) (by simp [freeL]) ?_ rfl ?_
  · intro a ha
    by_cases c : a ∈ heldL l m
    all_goals push_cast [c]
  push_cast [hP.all]
  refine ⟨?_, q⟩
  rw [List.length_map]
  refine le_line (Nat.le_trans (List.length_filter_le _ _) ?_)
  rw [rangeI_len]
  omega
def offerL (many : Int) (l : Lt) (h : Hd) (w : Nm) (m : Int) : Option Int :=
  let rest := let f := freeL many l m
    if f = [] then none else
      let fresh := (f.filter fun a => !decide (a ∈ h.map (·.2))) ++ f
      match lk w h with
      | some a => if a ∈ f then some a else fresh.head?
      | none => fresh.head?
  match lk w l with
  | some (a, u) => if m < u then some a else rest
  | none => rest
theorem offer_wp {j : Nat} {s : Sto} {many time m : Int} {l : Lt} {h : Hd} {w : Nm} {Q : KM W} (H : Ln s many time l h) (hm : 1 ≤ many ∧ many ≤ 4) (hl : l.length ≤ 5)
    (q : Q (match offerL many l h w m with
      | some a => .ok (.int a)
      | none => .error ⟨6, none⟩) s) : Wp (atT (tower P (j + 2)) 0 2 [.ref 1, .str w, .int m] none) s Q := by
  have h1 := H.a; have h2 := H.b; have h3 := H.c
  rw [at0, wp_run hP.n2 rfl]
  have rest (hq : Q (match (let f := freeL many l m
      if f = [] then none else
        let fresh := (f.filter fun a => !decide (a ∈ h.map (·.2))) ++ f
        match lk w h with
        | some a => if a ∈ f then some a else fresh.head?
        | none => fresh.head?) with
      | some a => .ok (.int a)
      | none => .error ⟨6, none⟩) s) : Wo (exs P (tower P (j + 1)) none (match b2 with | .cons _ r => r | _ => .nil) [some (.ref 1), some (.str w), some (.int m), none, none, none]) s (RetK false false Q) := by
    simp only [b2]
    push_cast [hP.all, h1, h2, h3]
    refine free_wp hP H hm hl ?_
    have hf : (freeL many l m).length ≤ 4 := by
      unfold freeL
      refine Nat.le_trans (List.length_filter_le _ _) ?_
      rw [rangeI_len]
      omega
    generalize freeL many l m = f at hq hf ⊢
    have frs (ef : f ≠ []) (hq : Q (match ((f.filter fun a => !decide (a ∈ h.map (·.2))) ++ f).head? with
          | some a => .ok (.int a)
          | none => .error ⟨6, none⟩) s) : Wo (exs P (tower P (j + 1)) none (match b2 with | .cons _ (.cons _ (.cons _ (.cons _ r))) => r | _ => .nil) [some (.ref 1), some (.str w), some (.int m), some (.tup (f.map .int)), none, none]) s (RetK false false Q) := by
      simp only [b2]
      push_cast [hP.all, h1, h2, h3]
      refine wp_comp (inj := .int) (p := fun a => !decide (a ∈ h.map (·.2))) (emb := .int) (g := fun a => a) f (f.filter fun a => !decide (a ∈ h.map (·.2))) rfl (by simp) ?_ rfl ?_
      · intro a ha
        by_cases c : a ∈ h.map (·.2)
        all_goals push_cast [hP.all, h1, h3, c]
      have hg := List.length_filter_le (fun a => !decide (a ∈ h.map (·.2))) f
      generalize f.filter (fun a => !decide (a ∈ h.map (·.2))) = g at hq hg ⊢
      by_cases eg : g = []
      · subst eg
        push_cast [hP.all, List.map_nil, atI_head, List.head?_map]
        cases f with
        | nil => exact (ef rfl).elim
        | cons a f => exact hq
      · push_cast [hP.all, eg, atI_head, List.head?_map]
        cases g with
        | nil => exact (eg rfl).elim
        | cons b g => exact ⟨le_line (by simp only [List.length_cons, List.length_map] at hg ⊢; omega), hq⟩
    push_cast [hP.all, h1, h2, h3]
    by_cases e : f = []
    · push_cast [hP.all, e]
      simp only [e, if_true] at hq
      exact hq
    · simp only [e, if_false] at hq
      cases e3 : lk w h with
      | none =>
        simp? [hP.all, h1, h2, h3, e, e3]
        rw [seqK_nx]
        simp? [hP.all, h1, h2, h3, e, e3]
        simp only [e3] at hq
        exact frs e hq
      | some a =>
        by_cases c : a ∈ f
        · push_cast [hP.all, h1, h2, h3, e, e3, c]
          simp only [e3, c, if_true] at hq
          exact hq
        · simp? [hP.all, h1, h2, h3, e, e3, c]
          rw [seqK_nx]
          simp? [hP.all, h1, h2, h3, e, e3, c]
          simp only [e3, c, if_false] at hq
          exact frs e hq
  unfold offerL at q
  cases e : lk w l with
  | none =>
    simp only [e] at q
    simp? [f2, b2, hP.all, h1, h2, h3, e]
    exact rest q
  | some v =>
    obtain ⟨a, u⟩ := v
    by_cases c : m < u
    · push_cast [f2, b2, hP.all, h1, h2, h3, e, eL, c]
      simp only [e, c, if_true] at q
      exact q
    · simp? [f2, b2, hP.all, h1, h2, h3, e, eL, c]
      simp only [e, c, if_false] at q
      exact rest q
omit hP in
theorem putL {t : Nm} {a u : Int} {l : Lt} : putK (.one (.str t)) (.tup [.int a, .int u]) (encD eS eL l) = encD eS eL (pt t (a, u) l) := putK_S (ve := eL) (a, u)
theorem take_wp {j : Nat} {s : Sto} {many time m b : Int} {l : Lt} {h : Hd} {w : Nm} {Q : KM W} (H : Ln s many time l h) (hm : 1 ≤ many ∧ many ≤ 4) (hl : l.length ≤ 5) (hh : h.length ≤ 5)
    (q : match offerL many l h w m with
      | some a => if b = a then Q (.ok (.int (m + time))) ((s.set 2 (.dct false (encD eS eL (pt w (a, m + time) l)))).set 3 (.dct false (encD eS W.int (pt w a h)))) else Q (.error ⟨7, none⟩) s
      | none => Q (.error ⟨6, none⟩) s) : Wp (atT (tower P (j + 3)) 0 3 [.ref 1, .str w, .int b, .int m] none) s Q := by
  have h1 := H.a; have h2 := H.b; have h3 := H.c
  rw [at0, wp_run hP.n3 rfl]
  push_cast [f3, b3, hP.all, h1, h2, h3]
  refine offer_wp hP H hm hl ?_
  cases e : offerL many l h w m with
  | none =>
    simp only [e] at q
    push_cast []
    exact q
  | some a =>
    simp only [e] at q
    by_cases c : b = a
    · subst c
      rw [if_pos rfl] at q
      push_cast [hP.all, h1, h2, h3, encD_len, putL, putK_S (ve := W.int)]
      exact ⟨lt_line (by omega), lt_line (by omega), q⟩
    · rw [if_neg c] at q
      push_cast [hP.all, h1, h2, h3, c]
      exact q
theorem keep_wp {j : Nat} {s : Sto} {many time m : Int} {l : Lt} {h : Hd} {w : Nm} {Q : KM W} (H : Ln s many time l h) (hl : l.length ≤ 5)
    (q : match lk w l with
      | some (a, u) => if m < u then Q (.ok (.int (m + time))) (s.set 2 (.dct false (encD eS eL (pt w (a, m + time) l)))) else Q (.error ⟨7, none⟩) s
      | none => Q (.error ⟨7, none⟩) s) : Wp (atT (tower P (j + 1)) 0 4 [.ref 1, .str w, .int m] none) s Q := by
  have h1 := H.a; have h2 := H.b; have h3 := H.c
  rw [at0, wp_run hP.n4 rfl]
  cases e : lk w l with
  | none =>
    simp only [e] at q
    push_cast [f4, b4, hP.all, h1, h2, h3, e]
    exact q
  | some v =>
    obtain ⟨a, u⟩ := v
    simp only [e] at q
    by_cases c : m < u
    · rw [if_pos c] at q
      have c' : ¬ u ≤ m := by omega
      push_cast [f4, b4, hP.all, h1, h2, h3, e, eL, c', encD_len, putL]
      exact ⟨lt_line (by omega), q⟩
    · rw [if_neg c] at q
      have c' : u ≤ m := by omega
      push_cast [f4, b4, hP.all, h1, h2, h3, e, eL, c']
      exact q
theorem give_wp {j : Nat} {s : Sto} {many time : Int} {l : Lt} {h : Hd} {w : Nm} {Q : KM W} (H : Ln s many time l h)
    (q : match lk w l with
      | some _ => Q (.ok .non) (s.set 2 (.dct false (encD eS eL (dl w l))))
      | none => Q (.error ⟨6, none⟩) s) : Wp (atT (tower P (j + 1)) 0 5 [.ref 1, .str w] none) s Q := by
  have h1 := H.a; have h2 := H.b; have h3 := H.c
  rw [at0, wp_run hP.n5 rfl]
  cases e : lk w l with
  | none =>
    simp only [e] at q
    push_cast [f5, b5, hP.all, h1, h2, h3, e]
    exact q
  | some v =>
    simp only [e] at q
    push_cast [f5, b5, hP.all, h1, h2, h3, e]
    exact q
def holdL (l : Lt) (m : Int) : List (Int × Nm) := (l.filter fun p => decide (m < p.2.2)).map fun p => (p.2.1, p.1)
theorem holders_wp {j : Nat} {s : Sto} {many time m : Int} {l : Lt} {h : Hd} {Q : KM W} (H : Ln s many time l h) (hl : l.length ≤ 5)
    (q : Q (.ok (.tup ((sortIS (holdL l m)).map eIS))) s) : Wp (atT (tower P (j + 1)) 0 6 [.ref 1, .int m] none) s Q := by
  have h1 := H.a; have h2 := H.b; have h3 := H.c
  have hh : (holdL l m).length ≤ 5 := by
    unfold holdL
    rw [List.length_map]
    exact Nat.le_trans (List.length_filter_le _ _) hl
  rw [at0, wp_run hP.n6 rfl]
  push_cast [f6, b6, hP.all]
  rw [wp_lock (n := 2) (kvs := encD eS eL l) (by simp [lkN, insOf, getF, h1, h2])]
  push_cast [hP.all, h1, h2]
  refine wp_comp (inj := fun p : Nm × (Int × Int) => .tup [kyW (eS p.1), eL p.2]) (p := fun p => decide (m < p.2.2)) (emb := eIS) (g := fun p => (p.2.1, p.1)) l (holdL l m) rfl rfl ?_ (by simp [set_get, beqD_self]) ?_
  · rintro ⟨n, a, u⟩ hx
    by_cases c : m < u
    · push_cast [eL, c, eIS]
    · push_cast [eL, c]
  push_cast [hP.all, h1, h2, set_self h2, sortT_IS]
  exact ⟨by rw [List.length_map]; exact le_line (by omega), by omega, q⟩
end L

end

section
set_option Elab.async false
set_option linter.all false
set_option maxRecDepth 100000
set_option maxHeartbeats 4000000
namespace L
open Mn
local macro_rules | `(tactic| push_cast [$as,*]) => `(tactic| simp only [↓wv_cst, ↓wv_var, ↓wv_bin, ↓wv_neg, ↓wv_cmp, ↓wv_chn, ↓wv_isN, ↓wv_and, ↓wv_or, ↓wv_not, ↓wv_ite, ↓wv_tup, ↓wv_lst, ↓wv_dct0, ↓wv_fld, ↓wv_idx, ↓wv_slc, ↓wv_call, ↓wv_new, ↓wv_meth, ↓wv_bi, ↓wv_bm, ↓wv_comp, ↓wc_compG, ↓wv_lkd, ↓wv_inV, ↓wv_litems, ↓wv_dget, ↓wv_lam, ↓wv_thk, ↓ws_nil, ↓ws_cons, ↓wt_nil, ↓wt_cons, ↓wq_no, ↓wq_so, ↓wi_seq, ↓wi_rng1, ↓wi_rng2, ↓wi_enum, ↓wi_keys, ↓wi_vals, ↓wi_items, ↓wg_var, ↓wg_tup, ↓wg_sub, ↓wg_fld, ↓wgs_nil, ↓wgs_cons, ↓wx_expr, ↓wx_asg, ↓wx_aug, ↓wx_augF, ↓wx_augS, ↓wx_ret, ↓wx_ret0, ↓wx_iff, ↓wx_forr, ↓wx_forB, ↓wx_whil, ↓wx_whilT, ↓wx_whilB, ↓wx_tryy, ↓wx_del, ↓wo_delM, ↓wx_rais, ↓wx_brk, ↓wx_cnt, ↓wx_pass, ↓wx_lkd, ↓wxs_nil, ↓wxs_cons, ↓wp_ret, ↓wp_bind, ↓wp_of, ↓wp_ofs, ↓wp_op, ↓wp_calm, ↓wp_get, ↓wp_no, ↓wo_toO, ↓wo_seq, ↓wo_end, ↓wp_make, ↓bindK_ok, ↓bindK_er, ↓toOK_ok, ↓toOK_er, ↓seqK_nx, ↓seqK_rt, ↓seqK_bk, ↓seqK_ct, ↓seqK_ex, ↓calmK_ok, ↓retK_nx, ↓retK_rt, ↓retK_rtf, ↓retK_ex, ↓makeK_non, ↓makeK_nonf, ↓makeK_er, ↓tryK_ex, ↓tryK_nx, ↓tryK_rt, ↓tryK_bk, ↓tryK_ct, ↓ifK_t, ↓ifK_f, ↓turnK_nx, ↓turnK_ct, ↓turnK_bk, ↓turnK_rt, ↓turnK_ex, ↓whilK_nx, ↓whilK_ct, ↓whilK_bk, ↓whilK_rt, ↓whilK_ex, w1_some, w1_of, w1_ret, w1_ite, kcW, setE, wipeE, tgSlots, tgsSlots, List.getElem?_cons_zero, List.getElem?_cons_succ, Option.join_some, List.set_cons_zero, List.set_cons_succ, List.append_eq, b2_addI, b2_subI, b2_mulI, b2_fdivI, b2_mdI, b2_powI, b2_addT, b2_addS, b2_addL, c2_eq, c2_ne, c2_lt, c2_le, c2_gt, c2_ge, c2_in, c2_nin, Option.map_some, Option.bind_some, eqc_ii, eqc_ss, eqc_ints, eqc_intsT, eqc_ints0, eqc_intsT0, eqc_nilL, eqc_nilT, eqc_bb, eqc_is, eqc_si, eqc_ns, eqc_sn, eqc_nn, eqc_ni, eqc_in, List.all_cons, List.all_nil, tru_b, tru_i, mtru, biW_int, biW_intb, biW_abs, biW_min2, biW_max2, List.map_cons, List.map_nil, List.length_cons, List.length_nil, List.cons_append, List.nil_append, List.replicate_succ, List.replicate_zero, decide_true, decide_false, decide_eq_true_eq, if_true, if_false, ite_true, ite_false, Bool.not_true, Bool.not_false, reduceIte, and_true, true_and, false_and, and_false, ne_eq, not_true_eq_false, not_false_eq_true, Nat.zero_add, Bool.false_eq_true, reduceCtorEq, decide_not, Nat.sub_zero, eq_self, and_self, valsV_enc, keysV_enc, itemsV_enc, Nat.add_one_sub_one, smallI_eq, smallR_eq, seqOf, lstOf, forall_const, Bool.and_true, Bool.true_and, Bool.or_true, Bool.true_or, Bool.or_false, Bool.false_or, Bool.or_eq_true, Bool.and_eq_true, seval, idx_ref, idxR_lst, idxR_dct, idx_lst, idx_tup, idx_str, idx_dct, atI_0, atI_1, atI_2, atI_3, fld_ref, fldR_ins, getF_cons, getF_nil, putF_cons, putF_nil, stF_ref, stFR_ins, meth_ref, methR_ins, stS_ref, stSR_lst, stSR_dct, toKy_i, toKy_s, toKy_si, toKy_ss, toKy_ii, in_ref, inR_dct, inV_ref, in_ints, in_intsT, del_ref, dctOf_ref, dctR_dct, get2_eq, get2R_some, Option.getD_some, Option.getD_none, delR_S, delR_I, wd_some, leLine_t, ltLine_t, vw_ref, vwR_dct, unlkR, lockK_r, lockO_rt, lockO_nx, slc_lst, slc_tup, slc_str, cutL_1, len_lst, len_tup, len_str, tuple_lst, tuple_tup, list_tup, list_lst, mkL_f, mkL_t, dict_lst, listd_eq, listdR_some, src_lst, src_tup, src_str, src_ref, set_get, new_get, set_nxt, new_nxt, set_set, getK_S, getK_I, getK_SI, getK_SS, kyOk_S, kyOk_I, kyOk_SI, kyOk_SS, delK_S, delK_I, kyW_S, kyW_I, kyW_SI, kyW_SS, Option.isSome_map, Option.isSome_none, Option.isSome_some, Option.map_none, Option.bind_none, inVR_enc, List.append_nil, $as,*])
local macro_rules | `(tactic| simp? [$as,*]) => `(tactic| simp only [↓wv_cst, ↓wv_var, ↓wv_bin, ↓wv_neg, ↓wv_cmp, ↓wv_chn, ↓wv_isN, ↓wv_and, ↓wv_or, ↓wv_not, ↓wv_ite, ↓wv_tup, ↓wv_lst, ↓wv_dct0, ↓wv_fld, ↓wv_idx, ↓wv_slc, ↓wv_call, ↓wv_new, ↓wv_meth, ↓wv_bi, ↓wv_bm, ↓wv_comp, ↓wc_compG, ↓wv_lkd, ↓wv_inV, ↓wv_litems, ↓wv_dget, ↓wv_lam, ↓wv_thk, ↓ws_nil, ↓ws_cons, ↓wt_nil, ↓wt_cons, ↓wq_no, ↓wq_so, ↓wi_seq, ↓wi_rng1, ↓wi_rng2, ↓wi_enum, ↓wi_keys, ↓wi_vals, ↓wi_items, ↓wg_var, ↓wg_tup, ↓wg_sub, ↓wg_fld, ↓wgs_nil, ↓wgs_cons, ↓wx_expr, ↓wx_asg, ↓wx_aug, ↓wx_augF, ↓wx_augS, ↓wx_ret, ↓wx_ret0, ↓wx_iff, ↓wx_forr, ↓wx_forB, ↓wx_whil, ↓wx_whilT, ↓wx_whilB, ↓wx_tryy, ↓wx_del, ↓wo_delM, ↓wx_rais, ↓wx_brk, ↓wx_cnt, ↓wx_pass, ↓wx_lkd, ↓wxs_nil, ↓wxs_cons, ↓wp_ret, ↓wp_bind, ↓wp_of, ↓wp_ofs, ↓wp_op, ↓wp_calm, ↓wp_get, ↓wp_no, ↓wo_toO, ↓wo_seq, ↓wo_end, ↓wp_make, ↓bindK_ok, ↓bindK_er, ↓toOK_ok, ↓toOK_er, ↓seqK_rt, ↓seqK_bk, ↓seqK_ct, ↓seqK_ex, ↓calmK_ok, ↓retK_nx, ↓retK_rt, ↓retK_rtf, ↓retK_ex, ↓makeK_non, ↓makeK_nonf, ↓makeK_er, ↓tryK_ex, ↓tryK_nx, ↓tryK_rt, ↓tryK_bk, ↓tryK_ct, ↓ifK_t, ↓ifK_f, ↓turnK_nx, ↓turnK_ct, ↓turnK_bk, ↓turnK_rt, ↓turnK_ex, ↓whilK_nx, ↓whilK_ct, ↓whilK_bk, ↓whilK_rt, ↓whilK_ex, w1_some, w1_of, w1_ret, w1_ite, kcW, setE, wipeE, tgSlots, tgsSlots, List.getElem?_cons_zero, List.getElem?_cons_succ, Option.join_some, List.set_cons_zero, List.set_cons_succ, List.append_eq, b2_addI, b2_subI, b2_mulI, b2_fdivI, b2_mdI, b2_powI, b2_addT, b2_addS, b2_addL, c2_eq, c2_ne, c2_lt, c2_le, c2_gt, c2_ge, c2_in, c2_nin, Option.map_some, Option.bind_some, eqc_ii, eqc_ss, eqc_ints, eqc_intsT, eqc_ints0, eqc_intsT0, eqc_nilL, eqc_nilT, eqc_bb, eqc_is, eqc_si, eqc_ns, eqc_sn, eqc_nn, eqc_ni, eqc_in, List.all_cons, List.all_nil, tru_b, tru_i, mtru, biW_int, biW_intb, biW_abs, biW_min2, biW_max2, List.map_cons, List.map_nil, List.length_cons, List.length_nil, List.cons_append, List.nil_append, List.replicate_succ, List.replicate_zero, decide_true, decide_false, decide_eq_true_eq, if_true, if_false, ite_true, ite_false, Bool.not_true, Bool.not_false, reduceIte, and_true, true_and, false_and, and_false, ne_eq, not_true_eq_false, not_false_eq_true, Nat.zero_add, Bool.false_eq_true, reduceCtorEq, decide_not, Nat.sub_zero, eq_self, and_self, valsV_enc, keysV_enc, itemsV_enc, Nat.add_one_sub_one, smallI_eq, smallR_eq, seqOf, lstOf, forall_const, Bool.and_true, Bool.true_and, Bool.or_true, Bool.true_or, Bool.or_false, Bool.false_or, Bool.or_eq_true, Bool.and_eq_true, seval, idx_ref, idxR_lst, idxR_dct, idx_lst, idx_tup, idx_str, idx_dct, atI_0, atI_1, atI_2, atI_3, fld_ref, fldR_ins, getF_cons, getF_nil, putF_cons, putF_nil, stF_ref, stFR_ins, meth_ref, methR_ins, stS_ref, stSR_lst, stSR_dct, toKy_i, toKy_s, toKy_si, toKy_ss, toKy_ii, in_ref, inR_dct, inV_ref, in_ints, in_intsT, del_ref, dctOf_ref, dctR_dct, get2_eq, get2R_some, Option.getD_some, Option.getD_none, delR_S, delR_I, wd_some, leLine_t, ltLine_t, vw_ref, vwR_dct, unlkR, lockK_r, lockO_rt, lockO_nx, slc_lst, slc_tup, slc_str, cutL_1, len_lst, len_tup, len_str, tuple_lst, tuple_tup, list_tup, list_lst, mkL_f, mkL_t, dict_lst, listd_eq, listdR_some, src_lst, src_tup, src_str, src_ref, set_get, new_get, set_nxt, new_nxt, set_set, getK_S, getK_I, getK_SI, getK_SS, kyOk_S, kyOk_I, kyOk_SI, kyOk_SS, delK_S, delK_I, kyW_S, kyW_I, kyW_SI, kyW_SS, Option.isSome_map, Option.isSome_none, Option.isSome_some, Option.map_none, Option.bind_none, inVR_enc, List.append_nil, $as,*])
local macro_rules | `(tactic| dsimp? [$as,*]) => `(tactic| simp only [↓wv_cst, ↓wv_var, ↓wv_bin, ↓wv_neg, ↓wv_cmp, ↓wv_chn, ↓wv_isN, ↓wv_and, ↓wv_or, ↓wv_not, ↓wv_ite, ↓wv_tup, ↓wv_lst, ↓wv_dct0, ↓wv_fld, ↓wv_idx, ↓wv_slc, ↓wv_call, ↓wv_new, ↓wv_meth, ↓wv_bi, ↓wv_bm, ↓wv_comp, ↓wc_compG, ↓wv_lkd, ↓wv_inV, ↓wv_litems, ↓wv_dget, ↓wv_lam, ↓wv_thk, ↓ws_nil, ↓ws_cons, ↓wt_nil, ↓wt_cons, ↓wq_no, ↓wq_so, ↓wi_seq, ↓wi_rng1, ↓wi_rng2, ↓wi_enum, ↓wi_keys, ↓wi_vals, ↓wi_items, ↓wg_var, ↓wg_tup, ↓wg_sub, ↓wg_fld, ↓wgs_nil, ↓wgs_cons, ↓wx_expr, ↓wx_asg, ↓wx_aug, ↓wx_augF, ↓wx_augS, ↓wx_ret, ↓wx_ret0, ↓wx_iff, ↓wx_forr, ↓wx_forB, ↓wx_whil, ↓wx_whilT, ↓wx_whilB, ↓wx_tryy, ↓wx_del, ↓wo_delM, ↓wx_rais, ↓wx_brk, ↓wx_cnt, ↓wx_pass, ↓wx_lkd, ↓wxs_nil, ↓wp_ret, ↓wp_bind, ↓wp_of, ↓wp_ofs, ↓wp_op, ↓wp_calm, ↓wp_get, ↓wp_no, ↓wo_toO, ↓wo_seq, ↓wo_end, ↓wp_make, ↓bindK_ok, ↓bindK_er, ↓toOK_ok, ↓toOK_er, ↓seqK_nx, ↓seqK_rt, ↓seqK_bk, ↓seqK_ct, ↓seqK_ex, ↓calmK_ok, ↓retK_nx, ↓retK_rt, ↓retK_rtf, ↓retK_ex, ↓makeK_non, ↓makeK_nonf, ↓makeK_er, ↓tryK_ex, ↓tryK_nx, ↓tryK_rt, ↓tryK_bk, ↓tryK_ct, ↓ifK_t, ↓ifK_f, ↓turnK_nx, ↓turnK_ct, ↓turnK_bk, ↓turnK_rt, ↓turnK_ex, ↓whilK_nx, ↓whilK_ct, ↓whilK_bk, ↓whilK_rt, ↓whilK_ex, w1_some, w1_of, w1_ret, w1_ite, kcW, setE, wipeE, tgSlots, tgsSlots, List.getElem?_cons_zero, List.getElem?_cons_succ, Option.join_some, List.set_cons_zero, List.set_cons_succ, List.append_eq, b2_addI, b2_subI, b2_mulI, b2_fdivI, b2_mdI, b2_powI, b2_addT, b2_addS, b2_addL, c2_eq, c2_ne, c2_lt, c2_le, c2_gt, c2_ge, c2_in, c2_nin, Option.map_some, Option.bind_some, eqc_ii, eqc_ss, eqc_ints, eqc_intsT, eqc_ints0, eqc_intsT0, eqc_nilL, eqc_nilT, eqc_bb, eqc_is, eqc_si, eqc_ns, eqc_sn, eqc_nn, eqc_ni, eqc_in, List.all_cons, List.all_nil, tru_b, tru_i, mtru, biW_int, biW_intb, biW_abs, biW_min2, biW_max2, List.map_cons, List.map_nil, List.length_cons, List.length_nil, List.cons_append, List.nil_append, List.replicate_succ, List.replicate_zero, decide_true, decide_false, decide_eq_true_eq, if_true, if_false, ite_true, ite_false, Bool.not_true, Bool.not_false, reduceIte, and_true, true_and, false_and, and_false, ne_eq, not_true_eq_false, not_false_eq_true, Nat.zero_add, Bool.false_eq_true, reduceCtorEq, decide_not, Nat.sub_zero, eq_self, and_self, valsV_enc, keysV_enc, itemsV_enc, Nat.add_one_sub_one, smallI_eq, smallR_eq, seqOf, lstOf, forall_const, Bool.and_true, Bool.true_and, Bool.or_true, Bool.true_or, Bool.or_false, Bool.false_or, Bool.or_eq_true, Bool.and_eq_true, seval, idx_ref, idxR_lst, idxR_dct, idx_lst, idx_tup, idx_str, idx_dct, atI_0, atI_1, atI_2, atI_3, fld_ref, fldR_ins, getF_cons, getF_nil, putF_cons, putF_nil, stF_ref, stFR_ins, meth_ref, methR_ins, stS_ref, stSR_lst, stSR_dct, toKy_i, toKy_s, toKy_si, toKy_ss, toKy_ii, in_ref, inR_dct, inV_ref, in_ints, in_intsT, del_ref, dctOf_ref, dctR_dct, get2_eq, get2R_some, Option.getD_some, Option.getD_none, delR_S, delR_I, wd_some, leLine_t, ltLine_t, vw_ref, vwR_dct, unlkR, lockK_r, lockO_rt, lockO_nx, slc_lst, slc_tup, slc_str, cutL_1, len_lst, len_tup, len_str, tuple_lst, tuple_tup, list_tup, list_lst, mkL_f, mkL_t, dict_lst, listd_eq, listdR_some, src_lst, src_tup, src_str, src_ref, set_get, new_get, set_nxt, new_nxt, set_set, getK_S, getK_I, getK_SI, getK_SS, kyOk_S, kyOk_I, kyOk_SI, kyOk_SS, delK_S, delK_I, kyW_S, kyW_I, kyW_SI, kyW_SS, Option.isSome_map, Option.isSome_none, Option.isSome_some, Option.map_none, Option.bind_none, inVR_enc, List.append_nil, $as,*])
variable {P : Pg} (hP : PgF P)
def nms : List Nm := [[97], [98], [99], [100], [101]]
structure LI (s : Sto) (many time : Int) (n : Nat) (l : Lt) (h : Hd) (m : Int) : Prop where
  L : Ln s many time l h
  d : ∃ a b k, s.get 0 = some (.lst [.int a, .int b, .int k])
  fn : s.get n = some (.dct false (encD eS eL l))
  fh : s.get 5 = some (.dct false (encD eS W.int h))
  nn : n = 4 ∨ 6 ≤ n
  ns : n < s.nxt
  s6 : 6 ≤ s.nxt
  kl : (l.map (·.1)).Nodup
  sl : ∀ x ∈ l.map (·.1), x ∈ nms
  kh : (h.map (·.1)).Nodup
  sh : ∀ x ∈ h.map (·.1), x ∈ nms
  act : ∀ p ∈ l, ∀ q ∈ l, m < p.2.2 → m < q.2.2 → p.2.1 = q.2.1 → p = q
def mineW (l : Lt) (w : Nm) (m : Int) : W := match lk w l with
  | some (a, u) => if m < u then .int a else .non
  | none => .non
def tNo : List Nat := [110, 111, 32, 115, 117, 99, 104]
def dueW (many : Int) (l : Lt) (h : Hd) (w : Nm) (m : Int) : W := match offerL many l h w m with
  | some a => .int a
  | none => .str tNo
def lb : Ss := (b21.get 0).body.get 2 |>.body
def toldS : Nat → Option (List Nat)
  | 1 => some [97, 100, 100, 114, 101, 115, 115]
  | 2 => some [102, 114, 97, 109, 101]
  | 3 => some [99, 111, 117, 110, 116]
  | 4 => some [114, 111, 119]
  | 5 => some [110, 111, 32, 114, 111, 117, 116, 101]
  | 6 => some tNo
  | 7 => some [114, 101, 102, 117, 115, 101, 100]
  | 8 => some [108, 97, 114, 103, 101]
  | 9 => some [116, 101, 120, 116]
  | _ => none
def ToldK (Q : KM W) : KM W := fun r s => match r with
  | .ok w => Q (.ok w) s
  | .error e => (match toldS e.c with
    | some t => Q (.ok (.str t)) s
    | none => False)
include hP
theorem told_wp {j : Nat} {m : M W} {s : Sto} {Q : KM W} (h : Wp m s (ToldK Q)) : Wp (atT (tower P (j + 1)) 0 17 [] (some m)) s Q := by
  rw [at0, wp_runT hP.n17]
  push_cast [f17, b17]
  refine h.mono ?_
  intro r s' q
  rcases r with ⟨c, x⟩ | w
  · simp only [ToldK] at q
    unfold toldS at q
    split at q
    · rename_i t e
      push_cast []
      split at e <;> first | (cases e; done) | (cases e; push_cast [caught, hP.all]; exact q)
    · exact q.elim
  · exact q
omit hP
theorem told_ok {Q : KM W} {w : W} {s : Sto} : ToldK Q (.ok w) s = Q (.ok w) s := rfl
theorem told_er {Q : KM W} {c : Nat} {x : Option (Nat × W)} {s : Sto} : ToldK Q (.error ⟨c, x⟩) s = (match toldS c with
    | some t => Q (.ok (.str t)) s
    | none => False) := rfl
end L

end

section
set_option Elab.async false
set_option linter.all false
set_option maxRecDepth 100000
set_option maxHeartbeats 4000000
namespace L
open Mn
local macro_rules | `(tactic| push_cast [$as,*]) => `(tactic| simp only [↓wv_cst, ↓wv_var, ↓wv_bin, ↓wv_neg, ↓wv_cmp, ↓wv_chn, ↓wv_isN, ↓wv_and, ↓wv_or, ↓wv_not, ↓wv_ite, ↓wv_tup, ↓wv_lst, ↓wv_dct0, ↓wv_fld, ↓wv_idx, ↓wv_slc, ↓wv_call, ↓wv_new, ↓wv_meth, ↓wv_bi, ↓wv_bm, ↓wv_comp, ↓wc_compG, ↓wv_lkd, ↓wv_inV, ↓wv_litems, ↓wv_dget, ↓wv_lam, ↓wv_thk, ↓ws_nil, ↓ws_cons, ↓wt_nil, ↓wt_cons, ↓wq_no, ↓wq_so, ↓wi_seq, ↓wi_rng1, ↓wi_rng2, ↓wi_enum, ↓wi_keys, ↓wi_vals, ↓wi_items, ↓wg_var, ↓wg_tup, ↓wg_sub, ↓wg_fld, ↓wgs_nil, ↓wgs_cons, ↓wx_expr, ↓wx_asg, ↓wx_aug, ↓wx_augF, ↓wx_augS, ↓wx_ret, ↓wx_ret0, ↓wx_iff, ↓wx_forr, ↓wx_forB, ↓wx_whil, ↓wx_whilT, ↓wx_whilB, ↓wx_tryy, ↓wx_del, ↓wo_delM, ↓wx_rais, ↓wx_brk, ↓wx_cnt, ↓wx_pass, ↓wx_lkd, ↓wxs_nil, ↓wxs_cons, ↓wp_ret, ↓wp_bind, ↓wp_of, ↓wp_ofs, ↓wp_op, ↓wp_calm, ↓wp_get, ↓wp_no, ↓wo_toO, ↓wo_seq, ↓wo_end, ↓wp_make, ↓bindK_ok, ↓bindK_er, ↓toOK_ok, ↓toOK_er, ↓seqK_nx, ↓seqK_rt, ↓seqK_bk, ↓seqK_ct, ↓seqK_ex, ↓calmK_ok, ↓retK_nx, ↓retK_rt, ↓retK_rtf, ↓retK_ex, ↓makeK_non, ↓makeK_nonf, ↓makeK_er, ↓tryK_ex, ↓tryK_nx, ↓tryK_rt, ↓tryK_bk, ↓tryK_ct, ↓ifK_t, ↓ifK_f, ↓turnK_nx, ↓turnK_ct, ↓turnK_bk, ↓turnK_rt, ↓turnK_ex, ↓whilK_nx, ↓whilK_ct, ↓whilK_bk, ↓whilK_rt, ↓whilK_ex, w1_some, w1_of, w1_ret, w1_ite, kcW, setE, wipeE, tgSlots, tgsSlots, List.getElem?_cons_zero, List.getElem?_cons_succ, Option.join_some, List.set_cons_zero, List.set_cons_succ, List.append_eq, b2_addI, b2_subI, b2_mulI, b2_fdivI, b2_mdI, b2_powI, b2_addT, b2_addS, b2_addL, c2_eq, c2_ne, c2_lt, c2_le, c2_gt, c2_ge, c2_in, c2_nin, Option.map_some, Option.bind_some, eqc_ii, eqc_ss, eqc_ints, eqc_intsT, eqc_ints0, eqc_intsT0, eqc_nilL, eqc_nilT, eqc_bb, eqc_is, eqc_si, eqc_ns, eqc_sn, eqc_nn, eqc_ni, eqc_in, List.all_cons, List.all_nil, tru_b, tru_i, mtru, biW_int, biW_intb, biW_abs, biW_min2, biW_max2, List.map_cons, List.map_nil, List.length_cons, List.length_nil, List.cons_append, List.nil_append, List.replicate_succ, List.replicate_zero, decide_true, decide_false, decide_eq_true_eq, if_true, if_false, ite_true, ite_false, Bool.not_true, Bool.not_false, reduceIte, and_true, true_and, false_and, and_false, ne_eq, not_true_eq_false, not_false_eq_true, Nat.zero_add, Bool.false_eq_true, reduceCtorEq, decide_not, Nat.sub_zero, eq_self, and_self, valsV_enc, keysV_enc, itemsV_enc, Nat.add_one_sub_one, smallI_eq, smallR_eq, seqOf, lstOf, forall_const, Bool.and_true, Bool.true_and, Bool.or_true, Bool.true_or, Bool.or_false, Bool.false_or, Bool.or_eq_true, Bool.and_eq_true, seval, idx_ref, idxR_lst, idxR_dct, idx_lst, idx_tup, idx_str, idx_dct, atI_0, atI_1, atI_2, atI_3, fld_ref, fldR_ins, getF_cons, getF_nil, putF_cons, putF_nil, stF_ref, stFR_ins, meth_ref, methR_ins, stS_ref, stSR_lst, stSR_dct, toKy_i, toKy_s, toKy_si, toKy_ss, toKy_ii, in_ref, inR_dct, inV_ref, in_ints, in_intsT, del_ref, dctOf_ref, dctR_dct, get2_eq, get2R_some, Option.getD_some, Option.getD_none, delR_S, delR_I, wd_some, leLine_t, ltLine_t, vw_ref, vwR_dct, unlkR, lockK_r, lockO_rt, lockO_nx, slc_lst, slc_tup, slc_str, cutL_1, len_lst, len_tup, len_str, tuple_lst, tuple_tup, list_tup, list_lst, mkL_f, mkL_t, dict_lst, listd_eq, listdR_some, src_lst, src_tup, src_str, src_ref, set_get, new_get, set_nxt, new_nxt, set_set, getK_S, getK_I, getK_SI, getK_SS, kyOk_S, kyOk_I, kyOk_SI, kyOk_SS, delK_S, delK_I, kyW_S, kyW_I, kyW_SI, kyW_SS, Option.isSome_map, Option.isSome_none, Option.isSome_some, Option.map_none, Option.bind_none, inVR_enc, List.append_nil, $as,*])
local macro_rules | `(tactic| simp? [$as,*]) => `(tactic| simp only [↓wv_cst, ↓wv_var, ↓wv_bin, ↓wv_neg, ↓wv_cmp, ↓wv_chn, ↓wv_isN, ↓wv_and, ↓wv_or, ↓wv_not, ↓wv_ite, ↓wv_tup, ↓wv_lst, ↓wv_dct0, ↓wv_fld, ↓wv_idx, ↓wv_slc, ↓wv_call, ↓wv_new, ↓wv_meth, ↓wv_bi, ↓wv_bm, ↓wv_comp, ↓wc_compG, ↓wv_lkd, ↓wv_inV, ↓wv_litems, ↓wv_dget, ↓wv_lam, ↓wv_thk, ↓ws_nil, ↓ws_cons, ↓wt_nil, ↓wt_cons, ↓wq_no, ↓wq_so, ↓wi_seq, ↓wi_rng1, ↓wi_rng2, ↓wi_enum, ↓wi_keys, ↓wi_vals, ↓wi_items, ↓wg_var, ↓wg_tup, ↓wg_sub, ↓wg_fld, ↓wgs_nil, ↓wgs_cons, ↓wx_expr, ↓wx_asg, ↓wx_aug, ↓wx_augF, ↓wx_augS, ↓wx_ret, ↓wx_ret0, ↓wx_iff, ↓wx_forr, ↓wx_forB, ↓wx_whil, ↓wx_whilT, ↓wx_whilB, ↓wx_tryy, ↓wx_del, ↓wo_delM, ↓wx_rais, ↓wx_brk, ↓wx_cnt, ↓wx_pass, ↓wx_lkd, ↓wxs_nil, ↓wxs_cons, ↓wp_ret, ↓wp_bind, ↓wp_of, ↓wp_ofs, ↓wp_op, ↓wp_calm, ↓wp_get, ↓wp_no, ↓wo_toO, ↓wo_seq, ↓wo_end, ↓wp_make, ↓bindK_ok, ↓bindK_er, ↓toOK_ok, ↓toOK_er, ↓seqK_rt, ↓seqK_bk, ↓seqK_ct, ↓seqK_ex, ↓calmK_ok, ↓retK_nx, ↓retK_rt, ↓retK_rtf, ↓retK_ex, ↓makeK_non, ↓makeK_nonf, ↓makeK_er, ↓tryK_ex, ↓tryK_nx, ↓tryK_rt, ↓tryK_bk, ↓tryK_ct, ↓ifK_t, ↓ifK_f, ↓turnK_nx, ↓turnK_ct, ↓turnK_bk, ↓turnK_rt, ↓turnK_ex, ↓whilK_nx, ↓whilK_ct, ↓whilK_bk, ↓whilK_rt, ↓whilK_ex, w1_some, w1_of, w1_ret, w1_ite, kcW, setE, wipeE, tgSlots, tgsSlots, List.getElem?_cons_zero, List.getElem?_cons_succ, Option.join_some, List.set_cons_zero, List.set_cons_succ, List.append_eq, b2_addI, b2_subI, b2_mulI, b2_fdivI, b2_mdI, b2_powI, b2_addT, b2_addS, b2_addL, c2_eq, c2_ne, c2_lt, c2_le, c2_gt, c2_ge, c2_in, c2_nin, Option.map_some, Option.bind_some, eqc_ii, eqc_ss, eqc_ints, eqc_intsT, eqc_ints0, eqc_intsT0, eqc_nilL, eqc_nilT, eqc_bb, eqc_is, eqc_si, eqc_ns, eqc_sn, eqc_nn, eqc_ni, eqc_in, List.all_cons, List.all_nil, tru_b, tru_i, mtru, biW_int, biW_intb, biW_abs, biW_min2, biW_max2, List.map_cons, List.map_nil, List.length_cons, List.length_nil, List.cons_append, List.nil_append, List.replicate_succ, List.replicate_zero, decide_true, decide_false, decide_eq_true_eq, if_true, if_false, ite_true, ite_false, Bool.not_true, Bool.not_false, reduceIte, and_true, true_and, false_and, and_false, ne_eq, not_true_eq_false, not_false_eq_true, Nat.zero_add, Bool.false_eq_true, reduceCtorEq, decide_not, Nat.sub_zero, eq_self, and_self, valsV_enc, keysV_enc, itemsV_enc, Nat.add_one_sub_one, smallI_eq, smallR_eq, seqOf, lstOf, forall_const, Bool.and_true, Bool.true_and, Bool.or_true, Bool.true_or, Bool.or_false, Bool.false_or, Bool.or_eq_true, Bool.and_eq_true, seval, idx_ref, idxR_lst, idxR_dct, idx_lst, idx_tup, idx_str, idx_dct, atI_0, atI_1, atI_2, atI_3, fld_ref, fldR_ins, getF_cons, getF_nil, putF_cons, putF_nil, stF_ref, stFR_ins, meth_ref, methR_ins, stS_ref, stSR_lst, stSR_dct, toKy_i, toKy_s, toKy_si, toKy_ss, toKy_ii, in_ref, inR_dct, inV_ref, in_ints, in_intsT, del_ref, dctOf_ref, dctR_dct, get2_eq, get2R_some, Option.getD_some, Option.getD_none, delR_S, delR_I, wd_some, leLine_t, ltLine_t, vw_ref, vwR_dct, unlkR, lockK_r, lockO_rt, lockO_nx, slc_lst, slc_tup, slc_str, cutL_1, len_lst, len_tup, len_str, tuple_lst, tuple_tup, list_tup, list_lst, mkL_f, mkL_t, dict_lst, listd_eq, listdR_some, src_lst, src_tup, src_str, src_ref, set_get, new_get, set_nxt, new_nxt, set_set, getK_S, getK_I, getK_SI, getK_SS, kyOk_S, kyOk_I, kyOk_SI, kyOk_SS, delK_S, delK_I, kyW_S, kyW_I, kyW_SI, kyW_SS, Option.isSome_map, Option.isSome_none, Option.isSome_some, Option.map_none, Option.bind_none, inVR_enc, List.append_nil, $as,*])
local macro_rules | `(tactic| dsimp? [$as,*]) => `(tactic| simp only [↓wv_cst, ↓wv_var, ↓wv_bin, ↓wv_neg, ↓wv_cmp, ↓wv_chn, ↓wv_isN, ↓wv_and, ↓wv_or, ↓wv_not, ↓wv_ite, ↓wv_tup, ↓wv_lst, ↓wv_dct0, ↓wv_fld, ↓wv_idx, ↓wv_slc, ↓wv_call, ↓wv_new, ↓wv_meth, ↓wv_bi, ↓wv_bm, ↓wv_comp, ↓wc_compG, ↓wv_lkd, ↓wv_inV, ↓wv_litems, ↓wv_dget, ↓wv_lam, ↓wv_thk, ↓ws_nil, ↓ws_cons, ↓wt_nil, ↓wt_cons, ↓wq_no, ↓wq_so, ↓wi_seq, ↓wi_rng1, ↓wi_rng2, ↓wi_enum, ↓wi_keys, ↓wi_vals, ↓wi_items, ↓wg_var, ↓wg_tup, ↓wg_sub, ↓wg_fld, ↓wgs_nil, ↓wgs_cons, ↓wx_expr, ↓wx_asg, ↓wx_aug, ↓wx_augF, ↓wx_augS, ↓wx_ret, ↓wx_ret0, ↓wx_iff, ↓wx_forr, ↓wx_forB, ↓wx_whil, ↓wx_whilT, ↓wx_whilB, ↓wx_tryy, ↓wx_del, ↓wo_delM, ↓wx_rais, ↓wx_brk, ↓wx_cnt, ↓wx_pass, ↓wx_lkd, ↓wxs_nil, ↓wp_ret, ↓wp_bind, ↓wp_of, ↓wp_ofs, ↓wp_op, ↓wp_calm, ↓wp_get, ↓wp_no, ↓wo_toO, ↓wo_seq, ↓wo_end, ↓wp_make, ↓bindK_ok, ↓bindK_er, ↓toOK_ok, ↓toOK_er, ↓seqK_nx, ↓seqK_rt, ↓seqK_bk, ↓seqK_ct, ↓seqK_ex, ↓calmK_ok, ↓retK_nx, ↓retK_rt, ↓retK_rtf, ↓retK_ex, ↓makeK_non, ↓makeK_nonf, ↓makeK_er, ↓tryK_ex, ↓tryK_nx, ↓tryK_rt, ↓tryK_bk, ↓tryK_ct, ↓ifK_t, ↓ifK_f, ↓turnK_nx, ↓turnK_ct, ↓turnK_bk, ↓turnK_rt, ↓turnK_ex, ↓whilK_nx, ↓whilK_ct, ↓whilK_bk, ↓whilK_rt, ↓whilK_ex, w1_some, w1_of, w1_ret, w1_ite, kcW, setE, wipeE, tgSlots, tgsSlots, List.getElem?_cons_zero, List.getElem?_cons_succ, Option.join_some, List.set_cons_zero, List.set_cons_succ, List.append_eq, b2_addI, b2_subI, b2_mulI, b2_fdivI, b2_mdI, b2_powI, b2_addT, b2_addS, b2_addL, c2_eq, c2_ne, c2_lt, c2_le, c2_gt, c2_ge, c2_in, c2_nin, Option.map_some, Option.bind_some, eqc_ii, eqc_ss, eqc_ints, eqc_intsT, eqc_ints0, eqc_intsT0, eqc_nilL, eqc_nilT, eqc_bb, eqc_is, eqc_si, eqc_ns, eqc_sn, eqc_nn, eqc_ni, eqc_in, List.all_cons, List.all_nil, tru_b, tru_i, mtru, biW_int, biW_intb, biW_abs, biW_min2, biW_max2, List.map_cons, List.map_nil, List.length_cons, List.length_nil, List.cons_append, List.nil_append, List.replicate_succ, List.replicate_zero, decide_true, decide_false, decide_eq_true_eq, if_true, if_false, ite_true, ite_false, Bool.not_true, Bool.not_false, reduceIte, and_true, true_and, false_and, and_false, ne_eq, not_true_eq_false, not_false_eq_true, Nat.zero_add, Bool.false_eq_true, reduceCtorEq, decide_not, Nat.sub_zero, eq_self, and_self, valsV_enc, keysV_enc, itemsV_enc, Nat.add_one_sub_one, smallI_eq, smallR_eq, seqOf, lstOf, forall_const, Bool.and_true, Bool.true_and, Bool.or_true, Bool.true_or, Bool.or_false, Bool.false_or, Bool.or_eq_true, Bool.and_eq_true, seval, idx_ref, idxR_lst, idxR_dct, idx_lst, idx_tup, idx_str, idx_dct, atI_0, atI_1, atI_2, atI_3, fld_ref, fldR_ins, getF_cons, getF_nil, putF_cons, putF_nil, stF_ref, stFR_ins, meth_ref, methR_ins, stS_ref, stSR_lst, stSR_dct, toKy_i, toKy_s, toKy_si, toKy_ss, toKy_ii, in_ref, inR_dct, inV_ref, in_ints, in_intsT, del_ref, dctOf_ref, dctR_dct, get2_eq, get2R_some, Option.getD_some, Option.getD_none, delR_S, delR_I, wd_some, leLine_t, ltLine_t, vw_ref, vwR_dct, unlkR, lockK_r, lockO_rt, lockO_nx, slc_lst, slc_tup, slc_str, cutL_1, len_lst, len_tup, len_str, tuple_lst, tuple_tup, list_tup, list_lst, mkL_f, mkL_t, dict_lst, listd_eq, listdR_some, src_lst, src_tup, src_str, src_ref, set_get, new_get, set_nxt, new_nxt, set_set, getK_S, getK_I, getK_SI, getK_SS, kyOk_S, kyOk_I, kyOk_SI, kyOk_SS, delK_S, delK_I, kyW_S, kyW_I, kyW_SI, kyW_SS, Option.isSome_map, Option.isSome_none, Option.isSome_some, Option.map_none, Option.bind_none, inVR_enc, List.append_nil, $as,*])
variable {P : Pg} (hP : PgF P)
theorem LI.l5 {s : Sto} {many time : Int} {n : Nat} {l : Lt} {h : Hd} {m : Int} (I : LI s many time n l h m) : l.length ≤ 5 := by
  have := len_sub I.kl I.sl
  simpa [nms] using this
theorem LI.h5 {s : Sto} {many time : Int} {n : Nat} {l : Lt} {h : Hd} {m : Int} (I : LI s many time n l h m) : h.length ≤ 5 := by
  have := len_sub I.kh I.sh
  simpa [nms] using this
theorem LI.set0 {s : Sto} {many time : Int} {n : Nat} {l : Lt} {h : Hd} {m : Int} (I : LI s many time n l h m) (a b k : Int) : LI (s.set 0 (.lst [.int a, .int b, .int k])) many time n l h m := by
  have e : n ≠ 0 := by have := I.nn; omega
  exact ⟨⟨by simpa [set_get] using I.L.a, by simpa [set_get] using I.L.b, by simpa [set_get] using I.L.c⟩, ⟨a, b, k, by simp [set_get]⟩, by simpa [set_get, e] using I.fn, by simpa [set_get] using I.fh, I.nn, I.ns, I.s6, I.kl, I.sl, I.kh, I.sh, I.act⟩
theorem LI.later {s : Sto} {many time : Int} {n : Nat} {l : Lt} {h : Hd} {m m' : Int} (I : LI s many time n l h m) (hm : m ≤ m') : LI s many time n l h m' :=
  ⟨I.L, I.d, I.fn, I.fh, I.nn, I.ns, I.s6, I.kl, I.sl, I.kh, I.sh, fun p hp q hq h1 h2 e => I.act p hp q hq (by omega) (by omega) e⟩
theorem nm5 {r : Int} (h0 : 0 ≤ r) (h1 : r < 5) : ∃ c, L2.atI [97, 98, 99, 100, 101] r = some c ∧ [c] ∈ nms := by
  have : r = 0 ∨ r = 1 ∨ r = 2 ∨ r = 3 ∨ r = 4 := by omega
  rcases this with rfl | rfl | rfl | rfl | rfl
  all_goals exact ⟨_, rfl, by decide⟩
theorem held_iff {l : Lt} {m a : Int} (n : (l.map (·.1)).Nodup) {ks : List Nm} (hk : ∀ x, x ∈ ks ↔ x ∈ l.map (·.1)) : a ∈ ((ks.filter fun x => match lk x l with
    | some (_, u) => decide (m < u)
    | none => false).map fun x => match lk x l with
    | some (a, _) => a
    | none => 0) ↔ a ∈ heldL l m := by
  unfold heldL
  simp only [List.mem_map, List.mem_filter, decide_eq_true_eq]
  constructor
  · rintro ⟨x, ⟨h1, h2⟩, h3⟩
    cases e : lk x l with
    | none => simp [e] at h2
    | some v =>
      obtain ⟨b, u⟩ := v
      simp only [e, decide_eq_true_eq] at h2 h3
      exact ⟨(x, b, u), ⟨lk_some e, h2⟩, h3⟩
  · rintro ⟨⟨x, b, u⟩, ⟨h1, h2⟩, h3⟩
    have e := lk_of n h1
    exact ⟨x, ⟨(hk x).mpr (List.mem_map.mpr ⟨_, h1, rfl⟩), by simpa [e] using h2⟩, by simpa [e] using h3⟩
theorem strsOf_map : ∀ {l : List Nm}, strsOf (l.map .str) = some l
  | [] => rfl
  | t :: l => by simp [strsOf, strsOf_map]
theorem sortS_keys {s : Sto} {n : Nat} {l : Lt} (h : s.get n = some (.dct false (encD eS eL l))) (hl : l.length ≤ 5) : biW .sortS [.ref n] s = some (.lst ((sortS (l.map (·.1))).map .str), s) := by
  have e : (encD eS eL l).map (fun p => kyW p.1) = (l.map (·.1)).map .str := by simp [encD, eS, kyW, k1W]
  show Op1.of ((itemsOf s (.ref n)).bind _) s = _
  simp only [itemsOf, dctOf, h, Bool.false_and, Bool.false_eq_true, if_false, e, Option.bind_some, strsOf_map, List.length_map]
  rw [if_pos (by omega)]
  rfl
include hP
theorem body1 {j : Nat} {s : Sto} {many time : Int} {n : Nat} {l : Lt} {h : Hd} {m : Int} (I : LI s many time n l h m) (hm : 1 ≤ many ∧ many ≤ 4) {w : Nm} (hw : w ∈ nms) {srt : Int} {sc stp o9 o10 o11 o12 o13 o16 o17 o18 : Option W} {Q : KO}
    (q : ∀ o9 o16 o17, Wo (exs P (tower P (j + 8)) none (Ss.drop 4 lb) [sc, some (.ref 0), stp, some (.int many), some (.int time), some (.ref 1), some (.ref n), some (.ref 5), some (.int m), o9, some (.lst ((freeL many l m).map .int)), o11, o12, o13, some (.str w), some (.int srt), o16, o17, o18]) s Q) :
    Wo (exs P (tower P (j + 8)) none (Ss.drop 1 lb) [sc, some (.ref 0), stp, some (.int many), some (.int time), some (.ref 1), some (.ref n), some (.ref 5), some (.int m), o9, o10, o11, o12, o13, some (.str w), some (.int srt), o16, o17, o18]) s Q := by
  have hn := I.fn
  have hl := I.l5
  simp only [lb, b21, Ss.get, S.body, Ss.drop]
  push_cast [hP.all, sortS_keys I.fn I.l5]
  have hks : ∀ x, x ∈ sortS (l.map (·.1)) ↔ x ∈ l.map (·.1) := fun x => sortB_mem
  have hkl : (sortS (l.map (·.1))).length ≤ 5 := by unfold sortS; rw [sortB_len, List.length_map]; exact hl
  refine wp_comp (inj := .str) (p := fun x => match lk x l with
    | some (_, u) => decide (m < u)
    | none => false) (emb := .int) (g := fun x => match lk x l with
    | some (a, _) => a
    | none => 0) (sortS (l.map (·.1))) _ rfl rfl ?_ rfl ?_
  · intro x hx
    have : (lk x l).isSome = true := lk_is.mpr ((hks x).mp hx)
    cases e : lk x l with
    | none => rw [e] at this; cases this
    | some v =>
      obtain ⟨a, u⟩ := v
      by_cases c : m < u
      · push_cast [e, hn, eL, c]
      · push_cast [e, hn, eL, c]
  have hH := fun a => held_iff (m := m) (a := a) I.kl hks
  have hlen := List.length_filter_le (fun x => match lk x l with
    | some (_, u) => decide (m < u)
    | none => false) (sortS (l.map (·.1)))
  generalize hg : ((sortS (l.map (·.1))).filter (fun x => match lk x l with
    | some (_, u) => decide (m < u)
    | none => false)).map (fun x => match lk x l with
    | some (a, _) => a
    | none => 0) = g at hH ⊢
  have hgl : g.length ≤ 5 := by rw [← hg, List.length_map]; omega
  push_cast [hP.all]
  refine ⟨le_line (by rw [List.length_map]; omega), by omega, ?_⟩
  have e1 : (10 + many - 10).toNat = many.toNat := by omega
  refine wp_comp (inj := .int) (p := fun a => !decide (a ∈ g)) (emb := .int) (g := fun a => a) (rangeI 10 many.toNat) (freeL many l m) (by rw [e1, rangeL_eq]) (by simp [freeL, hH]) ?_ rfl ?_
  · intro a ha
    by_cases c : a ∈ g
    all_goals push_cast [c]
  have hf : (freeL many l m).length ≤ 4 := by
    unfold freeL
    refine Nat.le_trans (List.length_filter_le _ _) ?_
    rw [rangeI_len]
    omega
  push_cast [hP.all, I.L.a]
  refine ⟨le_line (by rw [List.length_map]; omega), ?_⟩
  refine free_wp hP I.L hm hl ?_
  simp? [hP.all]
  exact ⟨le_line (by rw [List.length_map]; omega), q _ _ _⟩
end L

end

section
set_option Elab.async false
set_option linter.all false
set_option maxRecDepth 100000
set_option maxHeartbeats 4000000
namespace L
open Mn
local macro_rules | `(tactic| push_cast [$as,*]) => `(tactic| simp only [↓wv_cst, ↓wv_var, ↓wv_bin, ↓wv_neg, ↓wv_cmp, ↓wv_chn, ↓wv_isN, ↓wv_and, ↓wv_or, ↓wv_not, ↓wv_ite, ↓wv_tup, ↓wv_lst, ↓wv_dct0, ↓wv_fld, ↓wv_idx, ↓wv_slc, ↓wv_call, ↓wv_new, ↓wv_meth, ↓wv_bi, ↓wv_bm, ↓wv_comp, ↓wc_compG, ↓wv_lkd, ↓wv_inV, ↓wv_litems, ↓wv_dget, ↓wv_lam, ↓wv_thk, ↓ws_nil, ↓ws_cons, ↓wt_nil, ↓wt_cons, ↓wq_no, ↓wq_so, ↓wi_seq, ↓wi_rng1, ↓wi_rng2, ↓wi_enum, ↓wi_keys, ↓wi_vals, ↓wi_items, ↓wg_var, ↓wg_tup, ↓wg_sub, ↓wg_fld, ↓wgs_nil, ↓wgs_cons, ↓wx_expr, ↓wx_asg, ↓wx_aug, ↓wx_augF, ↓wx_augS, ↓wx_ret, ↓wx_ret0, ↓wx_iff, ↓wx_forr, ↓wx_forB, ↓wx_whil, ↓wx_whilT, ↓wx_whilB, ↓wx_tryy, ↓wx_del, ↓wo_delM, ↓wx_rais, ↓wx_brk, ↓wx_cnt, ↓wx_pass, ↓wx_lkd, ↓wxs_nil, ↓wxs_cons, ↓wp_ret, ↓wp_bind, ↓wp_of, ↓wp_ofs, ↓wp_op, ↓wp_calm, ↓wp_get, ↓wp_no, ↓wo_toO, ↓wo_seq, ↓wo_end, ↓wp_make, ↓bindK_ok, ↓bindK_er, ↓toOK_ok, ↓toOK_er, ↓seqK_nx, ↓seqK_rt, ↓seqK_bk, ↓seqK_ct, ↓seqK_ex, ↓calmK_ok, ↓retK_nx, ↓retK_rt, ↓retK_rtf, ↓retK_ex, ↓makeK_non, ↓makeK_nonf, ↓makeK_er, ↓tryK_ex, ↓tryK_nx, ↓tryK_rt, ↓tryK_bk, ↓tryK_ct, ↓ifK_t, ↓ifK_f, ↓turnK_nx, ↓turnK_ct, ↓turnK_bk, ↓turnK_rt, ↓turnK_ex, ↓whilK_nx, ↓whilK_ct, ↓whilK_bk, ↓whilK_rt, ↓whilK_ex, w1_some, w1_of, w1_ret, w1_ite, kcW, setE, wipeE, tgSlots, tgsSlots, List.getElem?_cons_zero, List.getElem?_cons_succ, Option.join_some, List.set_cons_zero, List.set_cons_succ, List.append_eq, b2_addI, b2_subI, b2_mulI, b2_fdivI, b2_mdI, b2_powI, b2_addT, b2_addS, b2_addL, c2_eq, c2_ne, c2_lt, c2_le, c2_gt, c2_ge, c2_in, c2_nin, Option.map_some, Option.bind_some, eqc_ii, eqc_ss, eqc_ints, eqc_intsT, eqc_ints0, eqc_intsT0, eqc_nilL, eqc_nilT, eqc_bb, eqc_is, eqc_si, eqc_ns, eqc_sn, eqc_nn, eqc_ni, eqc_in, List.all_cons, List.all_nil, tru_b, tru_i, mtru, biW_int, biW_intb, biW_abs, biW_min2, biW_max2, List.map_cons, List.map_nil, List.length_cons, List.length_nil, List.cons_append, List.nil_append, List.replicate_succ, List.replicate_zero, decide_true, decide_false, decide_eq_true_eq, if_true, if_false, ite_true, ite_false, Bool.not_true, Bool.not_false, reduceIte, and_true, true_and, false_and, and_false, ne_eq, not_true_eq_false, not_false_eq_true, Nat.zero_add, Bool.false_eq_true, reduceCtorEq, decide_not, Nat.sub_zero, eq_self, and_self, valsV_enc, keysV_enc, itemsV_enc, Nat.add_one_sub_one, smallI_eq, smallR_eq, seqOf, lstOf, forall_const, Bool.and_true, Bool.true_and, Bool.or_true, Bool.true_or, Bool.or_false, Bool.false_or, Bool.or_eq_true, Bool.and_eq_true, seval, idx_ref, idxR_lst, idxR_dct, idx_lst, idx_tup, idx_str, idx_dct, atI_0, atI_1, atI_2, atI_3, fld_ref, fldR_ins, getF_cons, getF_nil, putF_cons, putF_nil, stF_ref, stFR_ins, meth_ref, methR_ins, stS_ref, stSR_lst, stSR_dct, toKy_i, toKy_s, toKy_si, toKy_ss, toKy_ii, in_ref, inR_dct, inV_ref, in_ints, in_intsT, del_ref, dctOf_ref, dctR_dct, get2_eq, get2R_some, Option.getD_some, Option.getD_none, delR_S, delR_I, wd_some, leLine_t, ltLine_t, vw_ref, vwR_dct, unlkR, lockK_r, lockO_rt, lockO_nx, slc_lst, slc_tup, slc_str, cutL_1, len_lst, len_tup, len_str, tuple_lst, tuple_tup, list_tup, list_lst, mkL_f, mkL_t, dict_lst, listd_eq, listdR_some, src_lst, src_tup, src_str, src_ref, set_get, new_get, set_nxt, new_nxt, set_set, getK_S, getK_I, getK_SI, getK_SS, kyOk_S, kyOk_I, kyOk_SI, kyOk_SS, delK_S, delK_I, kyW_S, kyW_I, kyW_SI, kyW_SS, Option.isSome_map, Option.isSome_none, Option.isSome_some, Option.map_none, Option.bind_none, inVR_enc, List.append_nil, $as,*])
local macro_rules | `(tactic| simp? [$as,*]) => `(tactic| simp only [↓wv_cst, ↓wv_var, ↓wv_bin, ↓wv_neg, ↓wv_cmp, ↓wv_chn, ↓wv_isN, ↓wv_and, ↓wv_or, ↓wv_not, ↓wv_ite, ↓wv_tup, ↓wv_lst, ↓wv_dct0, ↓wv_fld, ↓wv_idx, ↓wv_slc, ↓wv_call, ↓wv_new, ↓wv_meth, ↓wv_bi, ↓wv_bm, ↓wv_comp, ↓wc_compG, ↓wv_lkd, ↓wv_inV, ↓wv_litems, ↓wv_dget, ↓wv_lam, ↓wv_thk, ↓ws_nil, ↓ws_cons, ↓wt_nil, ↓wt_cons, ↓wq_no, ↓wq_so, ↓wi_seq, ↓wi_rng1, ↓wi_rng2, ↓wi_enum, ↓wi_keys, ↓wi_vals, ↓wi_items, ↓wg_var, ↓wg_tup, ↓wg_sub, ↓wg_fld, ↓wgs_nil, ↓wgs_cons, ↓wx_expr, ↓wx_asg, ↓wx_aug, ↓wx_augF, ↓wx_augS, ↓wx_ret, ↓wx_ret0, ↓wx_iff, ↓wx_forr, ↓wx_forB, ↓wx_whil, ↓wx_whilT, ↓wx_whilB, ↓wx_tryy, ↓wx_del, ↓wo_delM, ↓wx_rais, ↓wx_brk, ↓wx_cnt, ↓wx_pass, ↓wx_lkd, ↓wxs_nil, ↓wxs_cons, ↓wp_ret, ↓wp_bind, ↓wp_of, ↓wp_ofs, ↓wp_op, ↓wp_calm, ↓wp_get, ↓wp_no, ↓wo_toO, ↓wo_seq, ↓wo_end, ↓wp_make, ↓bindK_ok, ↓bindK_er, ↓toOK_ok, ↓toOK_er, ↓seqK_rt, ↓seqK_bk, ↓seqK_ct, ↓seqK_ex, ↓calmK_ok, ↓retK_nx, ↓retK_rt, ↓retK_rtf, ↓retK_ex, ↓makeK_non, ↓makeK_nonf, ↓makeK_er, ↓tryK_ex, ↓tryK_nx, ↓tryK_rt, ↓tryK_bk, ↓tryK_ct, ↓ifK_t, ↓ifK_f, ↓turnK_nx, ↓turnK_ct, ↓turnK_bk, ↓turnK_rt, ↓turnK_ex, ↓whilK_nx, ↓whilK_ct, ↓whilK_bk, ↓whilK_rt, ↓whilK_ex, w1_some, w1_of, w1_ret, w1_ite, kcW, setE, wipeE, tgSlots, tgsSlots, List.getElem?_cons_zero, List.getElem?_cons_succ, Option.join_some, List.set_cons_zero, List.set_cons_succ, List.append_eq, b2_addI, b2_subI, b2_mulI, b2_fdivI, b2_mdI, b2_powI, b2_addT, b2_addS, b2_addL, c2_eq, c2_ne, c2_lt, c2_le, c2_gt, c2_ge, c2_in, c2_nin, Option.map_some, Option.bind_some, eqc_ii, eqc_ss, eqc_ints, eqc_intsT, eqc_ints0, eqc_intsT0, eqc_nilL, eqc_nilT, eqc_bb, eqc_is, eqc_si, eqc_ns, eqc_sn, eqc_nn, eqc_ni, eqc_in, List.all_cons, List.all_nil, tru_b, tru_i, mtru, biW_int, biW_intb, biW_abs, biW_min2, biW_max2, List.map_cons, List.map_nil, List.length_cons, List.length_nil, List.cons_append, List.nil_append, List.replicate_succ, List.replicate_zero, decide_true, decide_false, decide_eq_true_eq, if_true, if_false, ite_true, ite_false, Bool.not_true, Bool.not_false, reduceIte, and_true, true_and, false_and, and_false, ne_eq, not_true_eq_false, not_false_eq_true, Nat.zero_add, Bool.false_eq_true, reduceCtorEq, decide_not, Nat.sub_zero, eq_self, and_self, valsV_enc, keysV_enc, itemsV_enc, Nat.add_one_sub_one, smallI_eq, smallR_eq, seqOf, lstOf, forall_const, Bool.and_true, Bool.true_and, Bool.or_true, Bool.true_or, Bool.or_false, Bool.false_or, Bool.or_eq_true, Bool.and_eq_true, seval, idx_ref, idxR_lst, idxR_dct, idx_lst, idx_tup, idx_str, idx_dct, atI_0, atI_1, atI_2, atI_3, fld_ref, fldR_ins, getF_cons, getF_nil, putF_cons, putF_nil, stF_ref, stFR_ins, meth_ref, methR_ins, stS_ref, stSR_lst, stSR_dct, toKy_i, toKy_s, toKy_si, toKy_ss, toKy_ii, in_ref, inR_dct, inV_ref, in_ints, in_intsT, del_ref, dctOf_ref, dctR_dct, get2_eq, get2R_some, Option.getD_some, Option.getD_none, delR_S, delR_I, wd_some, leLine_t, ltLine_t, vw_ref, vwR_dct, unlkR, lockK_r, lockO_rt, lockO_nx, slc_lst, slc_tup, slc_str, cutL_1, len_lst, len_tup, len_str, tuple_lst, tuple_tup, list_tup, list_lst, mkL_f, mkL_t, dict_lst, listd_eq, listdR_some, src_lst, src_tup, src_str, src_ref, set_get, new_get, set_nxt, new_nxt, set_set, getK_S, getK_I, getK_SI, getK_SS, kyOk_S, kyOk_I, kyOk_SI, kyOk_SS, delK_S, delK_I, kyW_S, kyW_I, kyW_SI, kyW_SS, Option.isSome_map, Option.isSome_none, Option.isSome_some, Option.map_none, Option.bind_none, inVR_enc, List.append_nil, $as,*])
local macro_rules | `(tactic| dsimp? [$as,*]) => `(tactic| simp only [↓wv_cst, ↓wv_var, ↓wv_bin, ↓wv_neg, ↓wv_cmp, ↓wv_chn, ↓wv_isN, ↓wv_and, ↓wv_or, ↓wv_not, ↓wv_ite, ↓wv_tup, ↓wv_lst, ↓wv_dct0, ↓wv_fld, ↓wv_idx, ↓wv_slc, ↓wv_call, ↓wv_new, ↓wv_meth, ↓wv_bi, ↓wv_bm, ↓wv_comp, ↓wc_compG, ↓wv_lkd, ↓wv_inV, ↓wv_litems, ↓wv_dget, ↓wv_lam, ↓wv_thk, ↓ws_nil, ↓ws_cons, ↓wt_nil, ↓wt_cons, ↓wq_no, ↓wq_so, ↓wi_seq, ↓wi_rng1, ↓wi_rng2, ↓wi_enum, ↓wi_keys, ↓wi_vals, ↓wi_items, ↓wg_var, ↓wg_tup, ↓wg_sub, ↓wg_fld, ↓wgs_nil, ↓wgs_cons, ↓wx_expr, ↓wx_asg, ↓wx_aug, ↓wx_augF, ↓wx_augS, ↓wx_ret, ↓wx_ret0, ↓wx_iff, ↓wx_forr, ↓wx_forB, ↓wx_whil, ↓wx_whilT, ↓wx_whilB, ↓wx_tryy, ↓wx_del, ↓wo_delM, ↓wx_rais, ↓wx_brk, ↓wx_cnt, ↓wx_pass, ↓wx_lkd, ↓wxs_nil, ↓wp_ret, ↓wp_bind, ↓wp_of, ↓wp_ofs, ↓wp_op, ↓wp_calm, ↓wp_get, ↓wp_no, ↓wo_toO, ↓wo_seq, ↓wo_end, ↓wp_make, ↓bindK_ok, ↓bindK_er, ↓toOK_ok, ↓toOK_er, ↓seqK_nx, ↓seqK_rt, ↓seqK_bk, ↓seqK_ct, ↓seqK_ex, ↓calmK_ok, ↓retK_nx, ↓retK_rt, ↓retK_rtf, ↓retK_ex, ↓makeK_non, ↓makeK_nonf, ↓makeK_er, ↓tryK_ex, ↓tryK_nx, ↓tryK_rt, ↓tryK_bk, ↓tryK_ct, ↓ifK_t, ↓ifK_f, ↓turnK_nx, ↓turnK_ct, ↓turnK_bk, ↓turnK_rt, ↓turnK_ex, ↓whilK_nx, ↓whilK_ct, ↓whilK_bk, ↓whilK_rt, ↓whilK_ex, w1_some, w1_of, w1_ret, w1_ite, kcW, setE, wipeE, tgSlots, tgsSlots, List.getElem?_cons_zero, List.getElem?_cons_succ, Option.join_some, List.set_cons_zero, List.set_cons_succ, List.append_eq, b2_addI, b2_subI, b2_mulI, b2_fdivI, b2_mdI, b2_powI, b2_addT, b2_addS, b2_addL, c2_eq, c2_ne, c2_lt, c2_le, c2_gt, c2_ge, c2_in, c2_nin, Option.map_some, Option.bind_some, eqc_ii, eqc_ss, eqc_ints, eqc_intsT, eqc_ints0, eqc_intsT0, eqc_nilL, eqc_nilT, eqc_bb, eqc_is, eqc_si, eqc_ns, eqc_sn, eqc_nn, eqc_ni, eqc_in, List.all_cons, List.all_nil, tru_b, tru_i, mtru, biW_int, biW_intb, biW_abs, biW_min2, biW_max2, List.map_cons, List.map_nil, List.length_cons, List.length_nil, List.cons_append, List.nil_append, List.replicate_succ, List.replicate_zero, decide_true, decide_false, decide_eq_true_eq, if_true, if_false, ite_true, ite_false, Bool.not_true, Bool.not_false, reduceIte, and_true, true_and, false_and, and_false, ne_eq, not_true_eq_false, not_false_eq_true, Nat.zero_add, Bool.false_eq_true, reduceCtorEq, decide_not, Nat.sub_zero, eq_self, and_self, valsV_enc, keysV_enc, itemsV_enc, Nat.add_one_sub_one, smallI_eq, smallR_eq, seqOf, lstOf, forall_const, Bool.and_true, Bool.true_and, Bool.or_true, Bool.true_or, Bool.or_false, Bool.false_or, Bool.or_eq_true, Bool.and_eq_true, seval, idx_ref, idxR_lst, idxR_dct, idx_lst, idx_tup, idx_str, idx_dct, atI_0, atI_1, atI_2, atI_3, fld_ref, fldR_ins, getF_cons, getF_nil, putF_cons, putF_nil, stF_ref, stFR_ins, meth_ref, methR_ins, stS_ref, stSR_lst, stSR_dct, toKy_i, toKy_s, toKy_si, toKy_ss, toKy_ii, in_ref, inR_dct, inV_ref, in_ints, in_intsT, del_ref, dctOf_ref, dctR_dct, get2_eq, get2R_some, Option.getD_some, Option.getD_none, delR_S, delR_I, wd_some, leLine_t, ltLine_t, vw_ref, vwR_dct, unlkR, lockK_r, lockO_rt, lockO_nx, slc_lst, slc_tup, slc_str, cutL_1, len_lst, len_tup, len_str, tuple_lst, tuple_tup, list_tup, list_lst, mkL_f, mkL_t, dict_lst, listd_eq, listdR_some, src_lst, src_tup, src_str, src_ref, set_get, new_get, set_nxt, new_nxt, set_set, getK_S, getK_I, getK_SI, getK_SS, kyOk_S, kyOk_I, kyOk_SI, kyOk_SS, delK_S, delK_I, kyW_S, kyW_I, kyW_SI, kyW_SS, Option.isSome_map, Option.isSome_none, Option.isSome_some, Option.map_none, Option.bind_none, inVR_enc, List.append_nil, $as,*])
variable {P : Pg} (hP : PgF P)
def dueN (f g : List Int) (o : Option Int) : Option Int := if f = [] then none else
      match o with
      | some a => if a ∈ f then some a else (g ++ f).head?
      | none => (g ++ f).head?
def freshL (many : Int) (l : Lt) (h : Hd) (m : Int) : List Int := (freeL many l m).filter fun a => !decide (a ∈ h.map (·.2))
theorem offer_act {many : Int} {l : Lt} {h : Hd} {w : Nm} {m a u : Int} (e : lk w l = some (a, u)) (c : m < u) : offerL many l h w m = some a := by
  simp only [offerL, e, c, if_true]
theorem offer_not {many : Int} {l : Lt} {h : Hd} {w : Nm} {m : Int} (e : mineW l w m = .non) : offerL many l h w m = dueN (freeL many l m) (freshL many l h m) (lk w h) := by
  unfold mineW at e
  cases e1 : lk w l with
  | none => simp only [offerL, e1]; rfl
  | some v =>
    obtain ⟨a, u⟩ := v
    by_cases c : m < u
    · simp [e1, c] at e
    · simp only [offerL, e1, c, if_false]; rfl
include hP
theorem body2 {j : Nat} {s : Sto} {many time : Int} {n : Nat} {l : Lt} {h : Hd} {m : Int} (I : LI s many time n l h m) (hm : 1 ≤ many ∧ many ≤ 4) {w : Nm} (hw : w ∈ nms) {srt : Int} {sc stp o9 o11 o12 o13 o16 o17 o18 : Option W} {Q : KO}
    (q : ∀ o12 o17, Wo (exs P (tower P (j + 8)) none (Ss.drop 8 lb) [sc, some (.ref 0), stp, some (.int many), some (.int time), some (.ref 1), some (.ref n), some (.ref 5), some (.int m), o9, some (.lst ((freeL many l m).map .int)), some (mineW l w m), o12, some (dueW many l h w m), some (.str w), some (.int srt), o16, o17, o18]) s Q) :
    Wo (exs P (tower P (j + 8)) none (Ss.drop 4 lb) [sc, some (.ref 0), stp, some (.int many), some (.int time), some (.ref 1), some (.ref n), some (.ref 5), some (.int m), o9, some (.lst ((freeL many l m).map .int)), o11, o12, o13, some (.str w), some (.int srt), o16, o17, o18]) s Q := by
  have hn := I.fn
  have hl := I.l5
  have hh := I.fh
  have hL := I.L.a
  have hf : (freeL many l m).length ≤ 4 := by
    unfold freeL
    refine Nat.le_trans (List.length_filter_le _ _) ?_
    rw [rangeI_len]
    omega
  have f0 : (0 : Int) ∉ freeL many l m := by
    unfold freeL
    rw [List.mem_filter, mem_rangeI]
    omega
  have hwd : w.all (fun c => decide (c < 1114112)) = true := by
    simp only [nms, List.mem_cons, List.not_mem_nil, or_false] at hw
    rcases hw with rfl | rfl | rfl | rfl | rfl <;> decide
  have t7 (o12 o17) : Wo (exs P (tower P (j + 8)) none (Ss.drop 7 lb) [sc, some (.ref 0), stp, some (.int many), some (.int time), some (.ref 1), some (.ref n), some (.ref 5), some (.int m), o9, some (.lst ((freeL many l m).map .int)), some (mineW l w m), o12, some (dueW many l h w m), some (.str w), some (.int srt), o16, o17, o18]) s Q := by
    simp only [lb, b21, Ss.get, S.body, Ss.drop]
    push_cast [hP.all, dr2]
    refine told_wp hP ?_
    push_cast [hP.all, hL]
    refine offer_wp hP I.L hm hl ?_
    unfold dueW at q ⊢
    cases e : offerL many l h w m with
    | none =>
      simp only [e] at q
      simp? [told_er, toldS, tNo]
      exact q o12 o17
    | some a =>
      simp only [e] at q
      simp? [told_ok]
      exact q o12 o17
  have t6 (o17 : Option W) : Wo (exs P (tower P (j + 8)) none (Ss.drop 6 lb) [sc, some (.ref 0), stp, some (.int many), some (.int time), some (.ref 1), some (.ref n), some (.ref 5), some (.int m), o9, some (.lst ((freeL many l m).map .int)), some (mineW l w m), some (.lst ((freshL many l h m).map .int)), o13, some (.str w), some (.int srt), o16, o17, o18]) s Q := by
    have t := t7 (some (.lst ((freshL many l h m).map .int))) o17
    have hgl : (freshL many l h m).length ≤ (freeL many l m).length := List.length_filter_le _ _
    simp only [lb, b21, Ss.get, S.body, Ss.drop]
    by_cases em : mineW l w m = .non
    · unfold dueW at t
      rw [offer_not em] at t
      rw [em] at t ⊢
      generalize freshL many l h m = g at t hgl ⊢
      generalize freeL many l m = f at t hgl hf f0 ⊢
      by_cases e : f = []
      · simp only [dueN, e, if_true] at t ⊢
        simp? [hP.all, isNonW]
        exact t
      · simp only [dueN, e, if_false] at t
        have frs : ∃ a, L2.atI (g.map W.int ++ f.map W.int) 0 = some (.int a) ∧ (g ++ f).head? = some a := by
          rw [← List.map_append, atI_head]
          cases e5 : g ++ f with
          | nil => simp [e] at e5
          | cons a r => exact ⟨a, rfl, rfl⟩
        obtain ⟨b, fr1, fr2⟩ := frs
        cases e3 : lk w h with
        | none =>
          simp only [e3, fr2] at t
          simp? [hP.all, isNonW, e, hh, e3, f0, fr1]
          refine ⟨by simp only [List.length_map]; exact le_line (by omega), t⟩
        | some a =>
          simp only [e3] at t
          by_cases c : a ∈ f
          · simp only [c, if_true] at t
            simp? [hP.all, isNonW, e, hh, e3, c]
            exact t
          · simp only [c, if_false, fr2] at t
            simp? [hP.all, isNonW, e, hh, e3, c, fr1]
            refine ⟨by simp only [List.length_map]; exact le_line (by omega), t⟩
    · have : ∃ a u, lk w l = some (a, u) ∧ m < u := by
        unfold mineW at em
        cases e1 : lk w l with
        | none => simp [e1] at em
        | some v =>
          obtain ⟨a, u⟩ := v
          by_cases c : m < u
          · exact ⟨a, u, rfl, c⟩
          · simp [e1, c] at em
      obtain ⟨a, u, e1, c⟩ := this
      unfold dueW at t
      rw [offer_act e1 c] at t
      have e2 : mineW l w m = .int a := by simp [mineW, e1, c]
      rw [e2] at t ⊢
      simp? [hP.all, isNonW]
      exact t
  have t5 (o17 : Option W) : Wo (exs P (tower P (j + 8)) none (Ss.drop 5 lb) [sc, some (.ref 0), stp, some (.int many), some (.int time), some (.ref 1), some (.ref n), some (.ref 5), some (.int m), o9, some (.lst ((freeL many l m).map .int)), some (mineW l w m), o12, o13, some (.str w), some (.int srt), o16, o17, o18]) s Q := by
    have t := t6 o17
    have hgl : (freshL many l h m).length ≤ (freeL many l m).length := List.length_filter_le _ _
    simp only [lb, b21, Ss.get, S.body, Ss.drop]
    push_cast [hP.all]
    refine wp_comp (inj := .int) (p := fun a => !decide (a ∈ h.map (·.2))) (emb := .int) (g := fun a => a) (freeL many l m) (freshL many l h m) rfl (by simp [freshL]) ?_ rfl ?_
    · intro a ha
      by_cases c : a ∈ h.map (·.2)
      all_goals push_cast [hh, c]
    simp? [hP.all]
    exact ⟨le_line (by rw [List.length_map]; omega), t⟩
  have t := t5 o17
  simp only [lb, b21, Ss.get, S.body, Ss.drop]
  unfold mineW at t
  cases e1 : lk w l with
  | none =>
    simp only [e1] at t
    simp? [hP.all, hn, e1]
    exact t
  | some v =>
    obtain ⟨a, u⟩ := v
    by_cases c : m < u
    · simp only [e1, c, if_true] at t
      simp? [hP.all, hn, e1, eL, c]
      exact t
    · simp only [e1, c, if_false] at t
      simp? [hP.all, hn, e1, eL, c]
      exact t
end L

end

section
set_option Elab.async false
set_option linter.all false
set_option maxRecDepth 100000
set_option maxHeartbeats 4000000
namespace L
open Mn
local macro_rules | `(tactic| push_cast [$as,*]) => `(tactic| simp only [↓wv_cst, ↓wv_var, ↓wv_bin, ↓wv_neg, ↓wv_cmp, ↓wv_chn, ↓wv_isN, ↓wv_and, ↓wv_or, ↓wv_not, ↓wv_ite, ↓wv_tup, ↓wv_lst, ↓wv_dct0, ↓wv_fld, ↓wv_idx, ↓wv_slc, ↓wv_call, ↓wv_new, ↓wv_meth, ↓wv_bi, ↓wv_bm, ↓wv_comp, ↓wc_compG, ↓wv_lkd, ↓wv_inV, ↓wv_litems, ↓wv_dget, ↓wv_lam, ↓wv_thk, ↓ws_nil, ↓ws_cons, ↓wt_nil, ↓wt_cons, ↓wq_no, ↓wq_so, ↓wi_seq, ↓wi_rng1, ↓wi_rng2, ↓wi_enum, ↓wi_keys, ↓wi_vals, ↓wi_items, ↓wg_var, ↓wg_tup, ↓wg_sub, ↓wg_fld, ↓wgs_nil, ↓wgs_cons, ↓wx_expr, ↓wx_asg, ↓wx_aug, ↓wx_augF, ↓wx_augS, ↓wx_ret, ↓wx_ret0, ↓wx_iff, ↓wx_forr, ↓wx_forB, ↓wx_whil, ↓wx_whilT, ↓wx_whilB, ↓wx_tryy, ↓wx_del, ↓wo_delM, ↓wx_rais, ↓wx_brk, ↓wx_cnt, ↓wx_pass, ↓wx_lkd, ↓wxs_nil, ↓wxs_cons, ↓wp_ret, ↓wp_bind, ↓wp_of, ↓wp_ofs, ↓wp_op, ↓wp_calm, ↓wp_get, ↓wp_no, ↓wo_toO, ↓wo_seq, ↓wo_end, ↓wp_make, ↓bindK_ok, ↓bindK_er, ↓toOK_ok, ↓toOK_er, ↓seqK_nx, ↓seqK_rt, ↓seqK_bk, ↓seqK_ct, ↓seqK_ex, ↓calmK_ok, ↓retK_nx, ↓retK_rt, ↓retK_rtf, ↓retK_ex, ↓makeK_non, ↓makeK_nonf, ↓makeK_er, ↓tryK_ex, ↓tryK_nx, ↓tryK_rt, ↓tryK_bk, ↓tryK_ct, ↓ifK_t, ↓ifK_f, ↓turnK_nx, ↓turnK_ct, ↓turnK_bk, ↓turnK_rt, ↓turnK_ex, ↓whilK_nx, ↓whilK_ct, ↓whilK_bk, ↓whilK_rt, ↓whilK_ex, w1_some, w1_of, w1_ret, w1_ite, kcW, setE, wipeE, tgSlots, tgsSlots, List.getElem?_cons_zero, List.getElem?_cons_succ, Option.join_some, List.set_cons_zero, List.set_cons_succ, List.append_eq, b2_addI, b2_subI, b2_mulI, b2_fdivI, b2_mdI, b2_powI, b2_addT, b2_addS, b2_addL, c2_eq, c2_ne, c2_lt, c2_le, c2_gt, c2_ge, c2_in, c2_nin, Option.map_some, Option.bind_some, eqc_ii, eqc_ss, eqc_ints, eqc_intsT, eqc_ints0, eqc_intsT0, eqc_nilL, eqc_nilT, eqc_bb, eqc_is, eqc_si, eqc_ns, eqc_sn, eqc_nn, eqc_ni, eqc_in, List.all_cons, List.all_nil, tru_b, tru_i, mtru, biW_int, biW_intb, biW_abs, biW_min2, biW_max2, List.map_cons, List.map_nil, List.length_cons, List.length_nil, List.cons_append, List.nil_append, List.replicate_succ, List.replicate_zero, decide_true, decide_false, decide_eq_true_eq, if_true, if_false, ite_true, ite_false, Bool.not_true, Bool.not_false, reduceIte, and_true, true_and, false_and, and_false, ne_eq, not_true_eq_false, not_false_eq_true, Nat.zero_add, Bool.false_eq_true, reduceCtorEq, decide_not, Nat.sub_zero, eq_self, and_self, valsV_enc, keysV_enc, itemsV_enc, Nat.add_one_sub_one, smallI_eq, smallR_eq, seqOf, lstOf, forall_const, Bool.and_true, Bool.true_and, Bool.or_true, Bool.true_or, Bool.or_false, Bool.false_or, Bool.or_eq_true, Bool.and_eq_true, seval, idx_ref, idxR_lst, idxR_dct, idx_lst, idx_tup, idx_str, idx_dct, atI_0, atI_1, atI_2, atI_3, fld_ref, fldR_ins, getF_cons, getF_nil, putF_cons, putF_nil, stF_ref, stFR_ins, meth_ref, methR_ins, stS_ref, stSR_lst, stSR_dct, toKy_i, toKy_s, toKy_si, toKy_ss, toKy_ii, in_ref, inR_dct, inV_ref, in_ints, in_intsT, del_ref, dctOf_ref, dctR_dct, get2_eq, get2R_some, Option.getD_some, Option.getD_none, delR_S, delR_I, wd_some, leLine_t, ltLine_t, vw_ref, vwR_dct, unlkR, lockK_r, lockO_rt, lockO_nx, slc_lst, slc_tup, slc_str, cutL_1, len_lst, len_tup, len_str, tuple_lst, tuple_tup, list_tup, list_lst, mkL_f, mkL_t, dict_lst, listd_eq, listdR_some, src_lst, src_tup, src_str, src_ref, set_get, new_get, set_nxt, new_nxt, set_set, getK_S, getK_I, getK_SI, getK_SS, kyOk_S, kyOk_I, kyOk_SI, kyOk_SS, delK_S, delK_I, kyW_S, kyW_I, kyW_SI, kyW_SS, Option.isSome_map, Option.isSome_none, Option.isSome_some, Option.map_none, Option.bind_none, inVR_enc, List.append_nil, $as,*])
local macro_rules | `(tactic| simp? [$as,*]) => `(tactic| simp only [↓wv_cst, ↓wv_var, ↓wv_bin, ↓wv_neg, ↓wv_cmp, ↓wv_chn, ↓wv_isN, ↓wv_and, ↓wv_or, ↓wv_not, ↓wv_ite, ↓wv_tup, ↓wv_lst, ↓wv_dct0, ↓wv_fld, ↓wv_idx, ↓wv_slc, ↓wv_call, ↓wv_new, ↓wv_meth, ↓wv_bi, ↓wv_bm, ↓wv_comp, ↓wc_compG, ↓wv_lkd, ↓wv_inV, ↓wv_litems, ↓wv_dget, ↓wv_lam, ↓wv_thk, ↓ws_nil, ↓ws_cons, ↓wt_nil, ↓wt_cons, ↓wq_no, ↓wq_so, ↓wi_seq, ↓wi_rng1, ↓wi_rng2, ↓wi_enum, ↓wi_keys, ↓wi_vals, ↓wi_items, ↓wg_var, ↓wg_tup, ↓wg_sub, ↓wg_fld, ↓wgs_nil, ↓wgs_cons, ↓wx_expr, ↓wx_asg, ↓wx_aug, ↓wx_augF, ↓wx_augS, ↓wx_ret, ↓wx_ret0, ↓wx_iff, ↓wx_forr, ↓wx_forB, ↓wx_whil, ↓wx_whilT, ↓wx_whilB, ↓wx_tryy, ↓wx_del, ↓wo_delM, ↓wx_rais, ↓wx_brk, ↓wx_cnt, ↓wx_pass, ↓wx_lkd, ↓wxs_nil, ↓wxs_cons, ↓wp_ret, ↓wp_bind, ↓wp_of, ↓wp_ofs, ↓wp_op, ↓wp_calm, ↓wp_get, ↓wp_no, ↓wo_toO, ↓wo_seq, ↓wo_end, ↓wp_make, ↓bindK_ok, ↓bindK_er, ↓toOK_ok, ↓toOK_er, ↓seqK_rt, ↓seqK_bk, ↓seqK_ct, ↓seqK_ex, ↓calmK_ok, ↓retK_nx, ↓retK_rt, ↓retK_rtf, ↓retK_ex, ↓makeK_non, ↓makeK_nonf, ↓makeK_er, ↓tryK_ex, ↓tryK_nx, ↓tryK_rt, ↓tryK_bk, ↓tryK_ct, ↓ifK_t, ↓ifK_f, ↓turnK_nx, ↓turnK_ct, ↓turnK_bk, ↓turnK_rt, ↓turnK_ex, ↓whilK_nx, ↓whilK_ct, ↓whilK_bk, ↓whilK_rt, ↓whilK_ex, w1_some, w1_of, w1_ret, w1_ite, kcW, setE, wipeE, tgSlots, tgsSlots, List.getElem?_cons_zero, List.getElem?_cons_succ, Option.join_some, List.set_cons_zero, List.set_cons_succ, List.append_eq, b2_addI, b2_subI, b2_mulI, b2_fdivI, b2_mdI, b2_powI, b2_addT, b2_addS, b2_addL, c2_eq, c2_ne, c2_lt, c2_le, c2_gt, c2_ge, c2_in, c2_nin, Option.map_some, Option.bind_some, eqc_ii, eqc_ss, eqc_ints, eqc_intsT, eqc_ints0, eqc_intsT0, eqc_nilL, eqc_nilT, eqc_bb, eqc_is, eqc_si, eqc_ns, eqc_sn, eqc_nn, eqc_ni, eqc_in, List.all_cons, List.all_nil, tru_b, tru_i, mtru, biW_int, biW_intb, biW_abs, biW_min2, biW_max2, List.map_cons, List.map_nil, List.length_cons, List.length_nil, List.cons_append, List.nil_append, List.replicate_succ, List.replicate_zero, decide_true, decide_false, decide_eq_true_eq, if_true, if_false, ite_true, ite_false, Bool.not_true, Bool.not_false, reduceIte, and_true, true_and, false_and, and_false, ne_eq, not_true_eq_false, not_false_eq_true, Nat.zero_add, Bool.false_eq_true, reduceCtorEq, decide_not, Nat.sub_zero, eq_self, and_self, valsV_enc, keysV_enc, itemsV_enc, Nat.add_one_sub_one, smallI_eq, smallR_eq, seqOf, lstOf, forall_const, Bool.and_true, Bool.true_and, Bool.or_true, Bool.true_or, Bool.or_false, Bool.false_or, Bool.or_eq_true, Bool.and_eq_true, seval, idx_ref, idxR_lst, idxR_dct, idx_lst, idx_tup, idx_str, idx_dct, atI_0, atI_1, atI_2, atI_3, fld_ref, fldR_ins, getF_cons, getF_nil, putF_cons, putF_nil, stF_ref, stFR_ins, meth_ref, methR_ins, stS_ref, stSR_lst, stSR_dct, toKy_i, toKy_s, toKy_si, toKy_ss, toKy_ii, in_ref, inR_dct, inV_ref, in_ints, in_intsT, del_ref, dctOf_ref, dctR_dct, get2_eq, get2R_some, Option.getD_some, Option.getD_none, delR_S, delR_I, wd_some, leLine_t, ltLine_t, vw_ref, vwR_dct, unlkR, lockK_r, lockO_rt, lockO_nx, slc_lst, slc_tup, slc_str, cutL_1, len_lst, len_tup, len_str, tuple_lst, tuple_tup, list_tup, list_lst, mkL_f, mkL_t, dict_lst, listd_eq, listdR_some, src_lst, src_tup, src_str, src_ref, set_get, new_get, set_nxt, new_nxt, set_set, getK_S, getK_I, getK_SI, getK_SS, kyOk_S, kyOk_I, kyOk_SI, kyOk_SS, delK_S, delK_I, kyW_S, kyW_I, kyW_SI, kyW_SS, Option.isSome_map, Option.isSome_none, Option.isSome_some, Option.map_none, Option.bind_none, inVR_enc, List.append_nil, $as,*])
local macro_rules | `(tactic| dsimp? [$as,*]) => `(tactic| simp only [↓wv_cst, ↓wv_var, ↓wv_bin, ↓wv_neg, ↓wv_cmp, ↓wv_chn, ↓wv_isN, ↓wv_and, ↓wv_or, ↓wv_not, ↓wv_ite, ↓wv_tup, ↓wv_lst, ↓wv_dct0, ↓wv_fld, ↓wv_idx, ↓wv_slc, ↓wv_call, ↓wv_new, ↓wv_meth, ↓wv_bi, ↓wv_bm, ↓wv_comp, ↓wc_compG, ↓wv_lkd, ↓wv_inV, ↓wv_litems, ↓wv_dget, ↓wv_lam, ↓wv_thk, ↓ws_nil, ↓ws_cons, ↓wt_nil, ↓wt_cons, ↓wq_no, ↓wq_so, ↓wi_seq, ↓wi_rng1, ↓wi_rng2, ↓wi_enum, ↓wi_keys, ↓wi_vals, ↓wi_items, ↓wg_var, ↓wg_tup, ↓wg_sub, ↓wg_fld, ↓wgs_nil, ↓wgs_cons, ↓wx_expr, ↓wx_asg, ↓wx_aug, ↓wx_augF, ↓wx_augS, ↓wx_ret, ↓wx_ret0, ↓wx_iff, ↓wx_forr, ↓wx_forB, ↓wx_whil, ↓wx_whilT, ↓wx_whilB, ↓wx_tryy, ↓wx_del, ↓wo_delM, ↓wx_rais, ↓wx_brk, ↓wx_cnt, ↓wx_pass, ↓wx_lkd, ↓wxs_nil, ↓wp_ret, ↓wp_bind, ↓wp_of, ↓wp_ofs, ↓wp_op, ↓wp_calm, ↓wp_get, ↓wp_no, ↓wo_toO, ↓wo_seq, ↓wo_end, ↓wp_make, ↓bindK_ok, ↓bindK_er, ↓toOK_ok, ↓toOK_er, ↓seqK_nx, ↓seqK_rt, ↓seqK_bk, ↓seqK_ct, ↓seqK_ex, ↓calmK_ok, ↓retK_nx, ↓retK_rt, ↓retK_rtf, ↓retK_ex, ↓makeK_non, ↓makeK_nonf, ↓makeK_er, ↓tryK_ex, ↓tryK_nx, ↓tryK_rt, ↓tryK_bk, ↓tryK_ct, ↓ifK_t, ↓ifK_f, ↓turnK_nx, ↓turnK_ct, ↓turnK_bk, ↓turnK_rt, ↓turnK_ex, ↓whilK_nx, ↓whilK_ct, ↓whilK_bk, ↓whilK_rt, ↓whilK_ex, w1_some, w1_of, w1_ret, w1_ite, kcW, setE, wipeE, tgSlots, tgsSlots, List.getElem?_cons_zero, List.getElem?_cons_succ, Option.join_some, List.set_cons_zero, List.set_cons_succ, List.append_eq, b2_addI, b2_subI, b2_mulI, b2_fdivI, b2_mdI, b2_powI, b2_addT, b2_addS, b2_addL, c2_eq, c2_ne, c2_lt, c2_le, c2_gt, c2_ge, c2_in, c2_nin, Option.map_some, Option.bind_some, eqc_ii, eqc_ss, eqc_ints, eqc_intsT, eqc_ints0, eqc_intsT0, eqc_nilL, eqc_nilT, eqc_bb, eqc_is, eqc_si, eqc_ns, eqc_sn, eqc_nn, eqc_ni, eqc_in, List.all_cons, List.all_nil, tru_b, tru_i, mtru, biW_int, biW_intb, biW_abs, biW_min2, biW_max2, List.map_cons, List.map_nil, List.length_cons, List.length_nil, List.cons_append, List.nil_append, List.replicate_succ, List.replicate_zero, decide_true, decide_false, decide_eq_true_eq, if_true, if_false, ite_true, ite_false, Bool.not_true, Bool.not_false, reduceIte, and_true, true_and, false_and, and_false, ne_eq, not_true_eq_false, not_false_eq_true, Nat.zero_add, Bool.false_eq_true, reduceCtorEq, decide_not, Nat.sub_zero, eq_self, and_self, valsV_enc, keysV_enc, itemsV_enc, Nat.add_one_sub_one, smallI_eq, smallR_eq, seqOf, lstOf, forall_const, Bool.and_true, Bool.true_and, Bool.or_true, Bool.true_or, Bool.or_false, Bool.false_or, Bool.or_eq_true, Bool.and_eq_true, seval, idx_ref, idxR_lst, idxR_dct, idx_lst, idx_tup, idx_str, idx_dct, atI_0, atI_1, atI_2, atI_3, fld_ref, fldR_ins, getF_cons, getF_nil, putF_cons, putF_nil, stF_ref, stFR_ins, meth_ref, methR_ins, stS_ref, stSR_lst, stSR_dct, toKy_i, toKy_s, toKy_si, toKy_ss, toKy_ii, in_ref, inR_dct, inV_ref, in_ints, in_intsT, del_ref, dctOf_ref, dctR_dct, get2_eq, get2R_some, Option.getD_some, Option.getD_none, delR_S, delR_I, wd_some, leLine_t, ltLine_t, vw_ref, vwR_dct, unlkR, lockK_r, lockO_rt, lockO_nx, slc_lst, slc_tup, slc_str, cutL_1, len_lst, len_tup, len_str, tuple_lst, tuple_tup, list_tup, list_lst, mkL_f, mkL_t, dict_lst, listd_eq, listdR_some, src_lst, src_tup, src_str, src_ref, set_get, new_get, set_nxt, new_nxt, set_set, getK_S, getK_I, getK_SI, getK_SS, kyOk_S, kyOk_I, kyOk_SI, kyOk_SS, delK_S, delK_I, kyW_S, kyW_I, kyW_SI, kyW_SS, Option.isSome_map, Option.isSome_none, Option.isSome_some, Option.map_none, Option.bind_none, inVR_enc, List.append_nil, $as,*])
variable {P : Pg} (hP : PgF P)
theorem free_held {many : Int} {l : Lt} {m a : Int} (h : a ∈ freeL many l m) : a ∉ heldL l m := by
  unfold freeL at h
  simpa using (List.mem_filter.mp h).2
theorem held_mem {l : Lt} {m : Int} {p : Nm × (Int × Int)} (h : p ∈ l) (c : m < p.2.2) : p.2.1 ∈ heldL l m := by
  unfold heldL
  exact List.mem_map.mpr ⟨p, List.mem_filter.mpr ⟨h, by simpa using c⟩, rfl⟩
theorem dueN_mem {f g : List Int} {o : Option Int} {a : Int} (hg : ∀ x ∈ g, x ∈ f) (h : dueN f g o = some a) : a ∈ f := by
  unfold dueN at h
  by_cases e : f = []
  · simp [e] at h
  · rw [if_neg e] at h
    have hd : ∀ a, (g ++ f).head? = some a → a ∈ f := fun a ha => by
      rcases List.mem_append.mp (List.mem_of_mem_head? ha) with z | z
      · exact hg a z
      · exact z
    cases o with
    | none => exact hd a h
    | some b =>
      simp only at h
      by_cases c : b ∈ f
      · rw [if_pos c] at h; cases h; exact c
      · rw [if_neg c] at h; exact hd a h
theorem offer_apart {many : Int} {l : Lt} {h : Hd} {w : Nm} {m a : Int} (act : ∀ p ∈ l, ∀ q ∈ l, m < p.2.2 → m < q.2.2 → p.2.1 = q.2.1 → p = q) (e : offerL many l h w m = some a) : ∀ p ∈ l, m < p.2.2 → p.1 ≠ w → p.2.1 ≠ a := by
  intro p hp c hw ha
  by_cases em : mineW l w m = .non
  · rw [offer_not em] at e
    have := dueN_mem (fun x hx => (List.mem_filter.mp hx).1) e
    exact free_held this (ha ▸ held_mem hp c)
  · unfold mineW at em
    cases e1 : lk w l with
    | none => simp [e1] at em
    | some v =>
      obtain ⟨b, u⟩ := v
      by_cases c2 : m < u
      · rw [offer_act e1 c2] at e
        have e5 := Option.some.inj e
        have := act p hp (w, b, u) (lk_some e1) c c2 (ha.trans e5.symm)
        rw [this] at hw
        exact hw rfl
      · simp [e1, c2] at em
theorem act_pt {l : Lt} {w : Nm} {m a u : Int} (act : ∀ p ∈ l, ∀ q ∈ l, m < p.2.2 → m < q.2.2 → p.2.1 = q.2.1 → p = q) (ap : ∀ p ∈ l, m < p.2.2 → p.1 ≠ w → p.2.1 ≠ a) : ∀ p ∈ pt w (a, u) l, ∀ q ∈ pt w (a, u) l, m < p.2.2 → m < q.2.2 → p.2.1 = q.2.1 → p = q := by
  intro p hp q hq c d e
  rcases mem_pt hp with rfl | ⟨hp, hpw⟩
  · rcases mem_pt hq with rfl | ⟨hq, hqw⟩
    · rfl
    · exact (ap q hq d hqw e.symm).elim
  · rcases mem_pt hq with rfl | ⟨hq, hqw⟩
    · exact (ap p hp c hpw e).elim
    · exact act p hp q hq c d e
theorem keys_sub {ν : Type} {l : List (Nm × ν)} {w : Nm} {v : ν} (hw : w ∈ nms) (hs : ∀ x ∈ l.map (·.1), x ∈ nms) : ∀ x ∈ (pt w v l).map (·.1), x ∈ nms := by
  intro x hx
  rw [keys_pt] at hx
  split at hx
  · exact hs x hx
  · rcases List.mem_append.mp hx with h | h
    · exact hs x h
    · rw [List.mem_singleton.mp h]; exact hw
include hP
theorem body3 {j : Nat} {s : Sto} {many time : Int} {n : Nat} {l : Lt} {h : Hd} {m : Int} (I : LI s many time n l h m) (hm : 1 ≤ many ∧ many ≤ 4) {w : Nm} (hw : w ∈ nms) {srt : Int} {sc stp o9 o10 o12 o16 o17 o18 : Option W} {Q : KO}
    (q : ∀ s' n' l' h' o18, LI s' many time n' l' h' m → Q (.nx [sc, some (.ref 0), stp, some (.int many), some (.int time), some (.ref 1), some (.ref n'), some (.ref 5), some (.int m), o9, o10, some (mineW l w m), o12, some (dueW many l h w m), some (.str w), some (.int srt), o16, o17, o18]) s') :
    Wo (exs P (tower P (j + 8)) none (Ss.drop 8 lb) [sc, some (.ref 0), stp, some (.int many), some (.int time), some (.ref 1), some (.ref n), some (.ref 5), some (.int m), o9, o10, some (mineW l w m), o12, some (dueW many l h w m), some (.str w), some (.int srt), o16, o17, o18]) s Q := by
  have hn := I.fn
  have hl := I.l5
  have hh5 := I.h5
  have hh := I.fh
  have hL := I.L.a
  have hB := I.L.b
  have hC := I.L.c
  obtain ⟨da, db, dk, hD⟩ := I.d
  have n0 : n ≠ 0 := by have := I.nn; omega
  have n1 : n ≠ 1 := by have := I.nn; omega
  have n2 : n ≠ 2 := by have := I.nn; omega
  have n3 : n ≠ 3 := by have := I.nn; omega
  have n5 : n ≠ 5 := by have := I.nn; omega
  have hwd : w.all (fun c => decide (c < 1114112)) = true := by
    simp only [nms, List.mem_cons, List.not_mem_nil, or_false] at hw
    rcases hw with rfl | rfl | rfl | rfl | rfl <;> decide
  simp only [lb, b21, Ss.get, S.body, Ss.drop]
  have e2 (c1 : srt = 2) : Wo (exs P (tower P (j + 8)) none (((Ss.drop 8 lb).get 0).els) [sc, some (.ref 0), stp, some (.int many), some (.int time), some (.ref 1), some (.ref n), some (.ref 5), some (.int m), o9, o10, some (mineW l w m), o12, some (dueW many l h w m), some (.str w), some (.int srt), o16, o17, o18]) s (SeqK (fun ρ' => exs P (tower P (j + 8)) none .nil ρ') Q) := by
    subst c1
    simp only [lb, b21, Ss.get, S.body, Ss.drop, S.els]
    push_cast [hP.all, dr2]
    refine told_wp hP ?_
    push_cast [hP.all, hL]
    refine keep_wp hP I.L hl ?_
    cases e1 : lk w l with
    | none =>
      have em : mineW l w m = .non := by simp [mineW, e1]
      rw [em] at q ⊢
      push_cast [told_er, toldS, isNonW]
      exact q _ _ _ _ _ I
    | some v =>
      obtain ⟨a, u⟩ := v
      by_cases c : m < u
      · have em : mineW l w m = .int a := by simp [mineW, e1, c]
        rw [em] at q ⊢
        push_cast [told_ok, c, isNonW, hn, n2, encD_len, putL]
        refine ⟨lt_line (by omega), q _ _ (pt w (a, m + time) l) h _ ?_⟩
        have ap := offer_apart I.act (offer_act (many := many) (h := h) e1 c)
        exact ⟨⟨by simp [set_get, hL, Ne.symm n1], by simp [set_get, Ne.symm n2], by simp [set_get, hC, Ne.symm n3]⟩, ⟨da, db, dk, by simp [set_get, hD, Ne.symm n0]⟩, by simp [set_get], by simp [set_get, hh, Ne.symm n5], I.nn, I.ns, I.s6, nodup_pt I.kl, keys_sub hw I.sl, I.kh, I.sh, act_pt I.act ap⟩
      · have em : mineW l w m = .non := by simp [mineW, e1, c]
        rw [em] at q ⊢
        push_cast [told_er, toldS, isNonW, c]
        exact q _ _ _ _ _ I
  have e3 (c1 : srt ≠ 2) : Wo (exs P (tower P (j + 8)) none (((Ss.drop 8 lb).get 0).els) [sc, some (.ref 0), stp, some (.int many), some (.int time), some (.ref 1), some (.ref n), some (.ref 5), some (.int m), o9, o10, some (mineW l w m), o12, some (dueW many l h w m), some (.str w), some (.int srt), o16, o17, o18]) s (SeqK (fun ρ' => exs P (tower P (j + 8)) none .nil ρ') Q) := by
    simp only [lb, b21, Ss.get, S.body, Ss.drop, S.els]
    by_cases c2 : srt = 3
    · subst c2
      rw [wxs_cons]
      dsimp? []
      rw [wxs_cons]
      dsimp? []
      rw [wxs_cons]
      dsimp? [hP.all, dr2]
      refine told_wp hP ?_
      push_cast [hP.all, hL]
      refine give_wp hP I.L ?_
      have keep : ∀ x, x ∈ dl w l → x ∈ l := fun x hx => (List.mem_filter.mp hx).1
      have act' : ∀ p ∈ dl w l, ∀ q ∈ dl w l, m < p.2.2 → m < q.2.2 → p.2.1 = q.2.1 → p = q := fun p hp q hq => I.act p (keep p hp) q (keep q hq)
      have sl' : ∀ x ∈ (dl w l).map (·.1), x ∈ nms := fun x hx => by
        obtain ⟨p, hp, rfl⟩ := List.mem_map.mp hx
        exact I.sl _ (List.mem_map.mpr ⟨p, keep p hp, rfl⟩)
      have ps : pairsOf ((dl w l).map fun p => .tup [.str p.1, eL p.2]) = some (encD eS eL (dl w l)) := pairs_enc eS_inj (fun _ => rfl) (.inl fun _ => rfl) (nodup_filter I.kl)
      have dlen : (dl w l).length ≤ 5 := Nat.le_trans (List.length_filter_le _ _) hl
      have fin (v : W) (s1 : Sto) (hn1 : s1.get n = some (.dct false (encD eS eL l))) (hx1 : s1.nxt = s.nxt) (ho : ∀ k, k ≠ 2 → s1.get k = s.get k) (h2 : s1.get 2 = some (.dct false (encD eS eL (dl w l)))) : Wo (exs P (tower P (j + 8)) none (((((Ss.drop 8 lb).get 0).els.get 0).els.get 0).body.drop 2) [sc, some (.ref 0), stp, some (.int many), some (.int time), some (.ref 1), some (.ref n), some (.ref 5), some (.int m), o9, o10, some (mineW l w m), o12, some (dueW many l h w m), some (.str w), some (.int 3), o16, o17, some v]) s1 (SeqK (fun ρ' => exs P (tower P (j + 8)) none .nil ρ') (SeqK (fun ρ' => exs P (tower P (j + 8)) none .nil ρ') (SeqK (fun ρ' => exs P (tower P (j + 8)) none .nil ρ') Q))) := by
        simp only [lb, b21, Ss.get, S.body, Ss.drop, S.els]
        push_cast [hP.all]
        rw [wp_lock (n := n) (kvs := encD eS eL l) (by simp [lkN, hn1])]
        push_cast [hP.all]
        refine wp_comp (inj := fun p : Nm × (Int × Int) => kyW (eS p.1)) (p := fun p => decide (p.1 ≠ w)) (emb := fun p => .tup [kyW (eS p.1), eL p.2]) (g := fun p => p) l (dl w l) rfl (by simp [dl]) ?_ (by simp [set_get, beqD_self]) ?_
        · rintro ⟨x, v⟩ hx
          have e := lk_of I.kl hx
          by_cases c : x = w
          · push_cast [c]
          · push_cast [c, idxR_dctT (encD_ne hx), e]
        push_cast [hP.all, set_self hn1, ps, encD_len]
        refine ⟨le_line (by rw [List.length_map]; omega), le_line (by omega), ?_⟩
        have hs := I.ns
        have h6 := I.s6
        have x0 : ¬ 0 = s.nxt := by omega
        have x1 : ¬ 1 = s.nxt := by omega
        have x2 : ¬ 2 = s.nxt := by omega
        have x3 : ¬ 3 = s.nxt := by omega
        have x5 : ¬ 5 = s.nxt := by omega
        rw [hx1]
        refine q _ _ (dl w l) h _ ?_
        exact ⟨⟨by simp [new_get, hx1, x1, ho, hL], by simp [new_get, hx1, x2, h2], by simp [new_get, hx1, x3, ho, hC]⟩, ⟨da, db, dk, by simp [new_get, hx1, x0, ho, hD]⟩, by simp [new_get, hx1], by simp [new_get, hx1, x5, ho, hh], .inr h6, by simp [new_nxt, hx1], by simp [new_nxt, hx1]; omega, nodup_filter I.kl, sl', I.kh, I.sh, act'⟩
      cases e1 : lk w l with
      | none =>
        dsimp? [told_er, toldS, tNo, hn, e1]
        rw [wxs_cons]
        dsimp? [hn, e1]
        have hdl : dl w l = l := by
          unfold dl
          rw [List.filter_eq_self]
          intro p hp
          have := lk_none.mp e1
          simp only [decide_eq_true_eq]
          intro z
          exact this (List.mem_map.mpr ⟨p, hp, z⟩)
        exact fin _ s hn rfl (fun _ _ => rfl) (by rw [hdl]; exact hB)
      | some v =>
        dsimp? [told_ok]
        rw [wxs_cons]
        dsimp? [hn, n2, e1]
        exact fin _ _ (by simp [set_get, n2, hn]) rfl (fun k hk => by simp [set_get, hk]) (by simp [set_get])
    · push_cast [c1, c2]
      exact q _ _ _ _ _ I
  by_cases c0 : srt < 2
  · unfold dueW at q e3 ⊢
    have e3 := e3 (by omega)
    cases e1 : offerL many l h w m with
    | none =>
      simp only [e1] at q e3
      rw [wxs_cons]
      dsimp? [c0, hP.all, tNo]
      exact e3
    | some a =>
      simp only [e1] at q e3
      push_cast [c0, hP.all, hL]
      refine take_wp hP I.L hm hl hh5 ?_
      simp only [e1, if_true]
      push_cast [hP.all, hn, hh, n2, n3, n5, Ne.symm n5, putL, encD_len, putK_S (ve := W.int)]
      refine ⟨lt_line (by omega), lt_line (by omega), q _ _ (pt w (a, m + time) l) (pt w a h) _ ?_⟩
      have ap := offer_apart I.act e1
      exact ⟨⟨by simp [set_get, hL, Ne.symm n1], by simp [set_get, Ne.symm n2], by simp [set_get, Ne.symm n3]⟩, ⟨da, db, dk, by simp [set_get, hD, Ne.symm n0]⟩, by simp [set_get, n5], by simp [set_get], I.nn, I.ns, I.s6, nodup_pt I.kl, keys_sub hw I.sl, nodup_pt I.kh, keys_sub hw I.sh, act_pt I.act ap⟩
  · unfold dueW at q e2 e3 ⊢
    by_cases c2 : srt = 2
    · have e2 := e2 c2
      rw [wxs_cons]
      dsimp? [c0, hP.all]
      exact e2
    · have e3 := e3 c2
      rw [wxs_cons]
      dsimp? [c0, hP.all]
      exact e3
end L

end

section
set_option Elab.async false
set_option linter.all false
set_option maxRecDepth 100000
set_option maxHeartbeats 4000000
namespace L
open Mn
local macro_rules | `(tactic| push_cast [$as,*]) => `(tactic| simp only [↓wv_cst, ↓wv_var, ↓wv_bin, ↓wv_neg, ↓wv_cmp, ↓wv_chn, ↓wv_isN, ↓wv_and, ↓wv_or, ↓wv_not, ↓wv_ite, ↓wv_tup, ↓wv_lst, ↓wv_dct0, ↓wv_fld, ↓wv_idx, ↓wv_slc, ↓wv_call, ↓wv_new, ↓wv_meth, ↓wv_bi, ↓wv_bm, ↓wv_comp, ↓wc_compG, ↓wv_lkd, ↓wv_inV, ↓wv_litems, ↓wv_dget, ↓wv_lam, ↓wv_thk, ↓ws_nil, ↓ws_cons, ↓wt_nil, ↓wt_cons, ↓wq_no, ↓wq_so, ↓wi_seq, ↓wi_rng1, ↓wi_rng2, ↓wi_enum, ↓wi_keys, ↓wi_vals, ↓wi_items, ↓wg_var, ↓wg_tup, ↓wg_sub, ↓wg_fld, ↓wgs_nil, ↓wgs_cons, ↓wx_expr, ↓wx_asg, ↓wx_aug, ↓wx_augF, ↓wx_augS, ↓wx_ret, ↓wx_ret0, ↓wx_iff, ↓wx_forr, ↓wx_forB, ↓wx_whil, ↓wx_whilT, ↓wx_whilB, ↓wx_tryy, ↓wx_del, ↓wo_delM, ↓wx_rais, ↓wx_brk, ↓wx_cnt, ↓wx_pass, ↓wx_lkd, ↓wxs_nil, ↓wxs_cons, ↓wp_ret, ↓wp_bind, ↓wp_of, ↓wp_ofs, ↓wp_op, ↓wp_calm, ↓wp_get, ↓wp_no, ↓wo_toO, ↓wo_seq, ↓wo_end, ↓wp_make, ↓bindK_ok, ↓bindK_er, ↓toOK_ok, ↓toOK_er, ↓seqK_nx, ↓seqK_rt, ↓seqK_bk, ↓seqK_ct, ↓seqK_ex, ↓calmK_ok, ↓retK_nx, ↓retK_rt, ↓retK_rtf, ↓retK_ex, ↓makeK_non, ↓makeK_nonf, ↓makeK_er, ↓tryK_ex, ↓tryK_nx, ↓tryK_rt, ↓tryK_bk, ↓tryK_ct, ↓ifK_t, ↓ifK_f, ↓turnK_nx, ↓turnK_ct, ↓turnK_bk, ↓turnK_rt, ↓turnK_ex, ↓whilK_nx, ↓whilK_ct, ↓whilK_bk, ↓whilK_rt, ↓whilK_ex, w1_some, w1_of, w1_ret, w1_ite, kcW, setE, wipeE, tgSlots, tgsSlots, List.getElem?_cons_zero, List.getElem?_cons_succ, Option.join_some, List.set_cons_zero, List.set_cons_succ, List.append_eq, b2_addI, b2_subI, b2_mulI, b2_fdivI, b2_mdI, b2_powI, b2_addT, b2_addS, b2_addL, c2_eq, c2_ne, c2_lt, c2_le, c2_gt, c2_ge, c2_in, c2_nin, Option.map_some, Option.bind_some, eqc_ii, eqc_ss, eqc_ints, eqc_intsT, eqc_ints0, eqc_intsT0, eqc_nilL, eqc_nilT, eqc_bb, eqc_is, eqc_si, eqc_ns, eqc_sn, eqc_nn, eqc_ni, eqc_in, List.all_cons, List.all_nil, tru_b, tru_i, mtru, biW_int, biW_intb, biW_abs, biW_min2, biW_max2, List.map_cons, List.map_nil, List.length_cons, List.length_nil, List.cons_append, List.nil_append, List.replicate_succ, List.replicate_zero, decide_true, decide_false, decide_eq_true_eq, if_true, if_false, ite_true, ite_false, Bool.not_true, Bool.not_false, reduceIte, and_true, true_and, false_and, and_false, ne_eq, not_true_eq_false, not_false_eq_true, Nat.zero_add, Bool.false_eq_true, reduceCtorEq, decide_not, Nat.sub_zero, eq_self, and_self, valsV_enc, keysV_enc, itemsV_enc, Nat.add_one_sub_one, smallI_eq, smallR_eq, seqOf, lstOf, forall_const, Bool.and_true, Bool.true_and, Bool.or_true, Bool.true_or, Bool.or_false, Bool.false_or, Bool.or_eq_true, Bool.and_eq_true, seval, idx_ref, idxR_lst, idxR_dct, idx_lst, idx_tup, idx_str, idx_dct, atI_0, atI_1, atI_2, atI_3, fld_ref, fldR_ins, getF_cons, getF_nil, putF_cons, putF_nil, stF_ref, stFR_ins, meth_ref, methR_ins, stS_ref, stSR_lst, stSR_dct, toKy_i, toKy_s, toKy_si, toKy_ss, toKy_ii, in_ref, inR_dct, inV_ref, in_ints, in_intsT, del_ref, dctOf_ref, dctR_dct, get2_eq, get2R_some, Option.getD_some, Option.getD_none, delR_S, delR_I, wd_some, leLine_t, ltLine_t, vw_ref, vwR_dct, unlkR, lockK_r, lockO_rt, lockO_nx, slc_lst, slc_tup, slc_str, cutL_1, len_lst, len_tup, len_str, tuple_lst, tuple_tup, list_tup, list_lst, mkL_f, mkL_t, dict_lst, listd_eq, listdR_some, src_lst, src_tup, src_str, src_ref, set_get, new_get, set_nxt, new_nxt, set_set, getK_S, getK_I, getK_SI, getK_SS, kyOk_S, kyOk_I, kyOk_SI, kyOk_SS, delK_S, delK_I, kyW_S, kyW_I, kyW_SI, kyW_SS, Option.isSome_map, Option.isSome_none, Option.isSome_some, Option.map_none, Option.bind_none, inVR_enc, List.append_nil, $as,*])
local macro_rules | `(tactic| simp? [$as,*]) => `(tactic| simp only [↓wv_cst, ↓wv_var, ↓wv_bin, ↓wv_neg, ↓wv_cmp, ↓wv_chn, ↓wv_isN, ↓wv_and, ↓wv_or, ↓wv_not, ↓wv_ite, ↓wv_tup, ↓wv_lst, ↓wv_dct0, ↓wv_fld, ↓wv_idx, ↓wv_slc, ↓wv_call, ↓wv_new, ↓wv_meth, ↓wv_bi, ↓wv_bm, ↓wv_comp, ↓wc_compG, ↓wv_lkd, ↓wv_inV, ↓wv_litems, ↓wv_dget, ↓wv_lam, ↓wv_thk, ↓ws_nil, ↓ws_cons, ↓wt_nil, ↓wt_cons, ↓wq_no, ↓wq_so, ↓wi_seq, ↓wi_rng1, ↓wi_rng2, ↓wi_enum, ↓wi_keys, ↓wi_vals, ↓wi_items, ↓wg_var, ↓wg_tup, ↓wg_sub, ↓wg_fld, ↓wgs_nil, ↓wgs_cons, ↓wx_expr, ↓wx_asg, ↓wx_aug, ↓wx_augF, ↓wx_augS, ↓wx_ret, ↓wx_ret0, ↓wx_iff, ↓wx_forr, ↓wx_forB, ↓wx_whil, ↓wx_whilT, ↓wx_whilB, ↓wx_tryy, ↓wx_del, ↓wo_delM, ↓wx_rais, ↓wx_brk, ↓wx_cnt, ↓wx_pass, ↓wx_lkd, ↓wxs_nil, ↓wxs_cons, ↓wp_ret, ↓wp_bind, ↓wp_of, ↓wp_ofs, ↓wp_op, ↓wp_calm, ↓wp_get, ↓wp_no, ↓wo_toO, ↓wo_seq, ↓wo_end, ↓wp_make, ↓bindK_ok, ↓bindK_er, ↓toOK_ok, ↓toOK_er, ↓seqK_rt, ↓seqK_bk, ↓seqK_ct, ↓seqK_ex, ↓calmK_ok, ↓retK_nx, ↓retK_rt, ↓retK_rtf, ↓retK_ex, ↓makeK_non, ↓makeK_nonf, ↓makeK_er, ↓tryK_ex, ↓tryK_nx, ↓tryK_rt, ↓tryK_bk, ↓tryK_ct, ↓ifK_t, ↓ifK_f, ↓turnK_nx, ↓turnK_ct, ↓turnK_bk, ↓turnK_rt, ↓turnK_ex, ↓whilK_nx, ↓whilK_ct, ↓whilK_bk, ↓whilK_rt, ↓whilK_ex, w1_some, w1_of, w1_ret, w1_ite, kcW, setE, wipeE, tgSlots, tgsSlots, List.getElem?_cons_zero, List.getElem?_cons_succ, Option.join_some, List.set_cons_zero, List.set_cons_succ, List.append_eq, b2_addI, b2_subI, b2_mulI, b2_fdivI, b2_mdI, b2_powI, b2_addT, b2_addS, b2_addL, c2_eq, c2_ne, c2_lt, c2_le, c2_gt, c2_ge, c2_in, c2_nin, Option.map_some, Option.bind_some, eqc_ii, eqc_ss, eqc_ints, eqc_intsT, eqc_ints0, eqc_intsT0, eqc_nilL, eqc_nilT, eqc_bb, eqc_is, eqc_si, eqc_ns, eqc_sn, eqc_nn, eqc_ni, eqc_in, List.all_cons, List.all_nil, tru_b, tru_i, mtru, biW_int, biW_intb, biW_abs, biW_min2, biW_max2, List.map_cons, List.map_nil, List.length_cons, List.length_nil, List.cons_append, List.nil_append, List.replicate_succ, List.replicate_zero, decide_true, decide_false, decide_eq_true_eq, if_true, if_false, ite_true, ite_false, Bool.not_true, Bool.not_false, reduceIte, and_true, true_and, false_and, and_false, ne_eq, not_true_eq_false, not_false_eq_true, Nat.zero_add, Bool.false_eq_true, reduceCtorEq, decide_not, Nat.sub_zero, eq_self, and_self, valsV_enc, keysV_enc, itemsV_enc, Nat.add_one_sub_one, smallI_eq, smallR_eq, seqOf, lstOf, forall_const, Bool.and_true, Bool.true_and, Bool.or_true, Bool.true_or, Bool.or_false, Bool.false_or, Bool.or_eq_true, Bool.and_eq_true, seval, idx_ref, idxR_lst, idxR_dct, idx_lst, idx_tup, idx_str, idx_dct, atI_0, atI_1, atI_2, atI_3, fld_ref, fldR_ins, getF_cons, getF_nil, putF_cons, putF_nil, stF_ref, stFR_ins, meth_ref, methR_ins, stS_ref, stSR_lst, stSR_dct, toKy_i, toKy_s, toKy_si, toKy_ss, toKy_ii, in_ref, inR_dct, inV_ref, in_ints, in_intsT, del_ref, dctOf_ref, dctR_dct, get2_eq, get2R_some, Option.getD_some, Option.getD_none, delR_S, delR_I, wd_some, leLine_t, ltLine_t, vw_ref, vwR_dct, unlkR, lockK_r, lockO_rt, lockO_nx, slc_lst, slc_tup, slc_str, cutL_1, len_lst, len_tup, len_str, tuple_lst, tuple_tup, list_tup, list_lst, mkL_f, mkL_t, dict_lst, listd_eq, listdR_some, src_lst, src_tup, src_str, src_ref, set_get, new_get, set_nxt, new_nxt, set_set, getK_S, getK_I, getK_SI, getK_SS, kyOk_S, kyOk_I, kyOk_SI, kyOk_SS, delK_S, delK_I, kyW_S, kyW_I, kyW_SI, kyW_SS, Option.isSome_map, Option.isSome_none, Option.isSome_some, Option.map_none, Option.bind_none, inVR_enc, List.append_nil, $as,*])
local macro_rules | `(tactic| dsimp? [$as,*]) => `(tactic| simp only [↓wv_cst, ↓wv_var, ↓wv_bin, ↓wv_neg, ↓wv_cmp, ↓wv_chn, ↓wv_isN, ↓wv_and, ↓wv_or, ↓wv_not, ↓wv_ite, ↓wv_tup, ↓wv_lst, ↓wv_dct0, ↓wv_fld, ↓wv_idx, ↓wv_slc, ↓wv_call, ↓wv_new, ↓wv_meth, ↓wv_bi, ↓wv_bm, ↓wv_comp, ↓wc_compG, ↓wv_lkd, ↓wv_inV, ↓wv_litems, ↓wv_dget, ↓wv_lam, ↓wv_thk, ↓ws_nil, ↓ws_cons, ↓wt_nil, ↓wt_cons, ↓wq_no, ↓wq_so, ↓wi_seq, ↓wi_rng1, ↓wi_rng2, ↓wi_enum, ↓wi_keys, ↓wi_vals, ↓wi_items, ↓wg_var, ↓wg_tup, ↓wg_sub, ↓wg_fld, ↓wgs_nil, ↓wgs_cons, ↓wx_expr, ↓wx_asg, ↓wx_aug, ↓wx_augF, ↓wx_augS, ↓wx_ret, ↓wx_ret0, ↓wx_iff, ↓wx_forr, ↓wx_forB, ↓wx_whil, ↓wx_whilT, ↓wx_whilB, ↓wx_tryy, ↓wx_del, ↓wo_delM, ↓wx_rais, ↓wx_brk, ↓wx_cnt, ↓wx_pass, ↓wx_lkd, ↓wxs_nil, ↓wp_ret, ↓wp_bind, ↓wp_of, ↓wp_ofs, ↓wp_op, ↓wp_calm, ↓wp_get, ↓wp_no, ↓wo_toO, ↓wo_seq, ↓wo_end, ↓wp_make, ↓bindK_ok, ↓bindK_er, ↓toOK_ok, ↓toOK_er, ↓seqK_nx, ↓seqK_rt, ↓seqK_bk, ↓seqK_ct, ↓seqK_ex, ↓calmK_ok, ↓retK_nx, ↓retK_rt, ↓retK_rtf, ↓retK_ex, ↓makeK_non, ↓makeK_nonf, ↓makeK_er, ↓tryK_ex, ↓tryK_nx, ↓tryK_rt, ↓tryK_bk, ↓tryK_ct, ↓ifK_t, ↓ifK_f, ↓turnK_nx, ↓turnK_ct, ↓turnK_bk, ↓turnK_rt, ↓turnK_ex, ↓whilK_nx, ↓whilK_ct, ↓whilK_bk, ↓whilK_rt, ↓whilK_ex, w1_some, w1_of, w1_ret, w1_ite, kcW, setE, wipeE, tgSlots, tgsSlots, List.getElem?_cons_zero, List.getElem?_cons_succ, Option.join_some, List.set_cons_zero, List.set_cons_succ, List.append_eq, b2_addI, b2_subI, b2_mulI, b2_fdivI, b2_mdI, b2_powI, b2_addT, b2_addS, b2_addL, c2_eq, c2_ne, c2_lt, c2_le, c2_gt, c2_ge, c2_in, c2_nin, Option.map_some, Option.bind_some, eqc_ii, eqc_ss, eqc_ints, eqc_intsT, eqc_ints0, eqc_intsT0, eqc_nilL, eqc_nilT, eqc_bb, eqc_is, eqc_si, eqc_ns, eqc_sn, eqc_nn, eqc_ni, eqc_in, List.all_cons, List.all_nil, tru_b, tru_i, mtru, biW_int, biW_intb, biW_abs, biW_min2, biW_max2, List.map_cons, List.map_nil, List.length_cons, List.length_nil, List.cons_append, List.nil_append, List.replicate_succ, List.replicate_zero, decide_true, decide_false, decide_eq_true_eq, if_true, if_false, ite_true, ite_false, Bool.not_true, Bool.not_false, reduceIte, and_true, true_and, false_and, and_false, ne_eq, not_true_eq_false, not_false_eq_true, Nat.zero_add, Bool.false_eq_true, reduceCtorEq, decide_not, Nat.sub_zero, eq_self, and_self, valsV_enc, keysV_enc, itemsV_enc, Nat.add_one_sub_one, smallI_eq, smallR_eq, seqOf, lstOf, forall_const, Bool.and_true, Bool.true_and, Bool.or_true, Bool.true_or, Bool.or_false, Bool.false_or, Bool.or_eq_true, Bool.and_eq_true, seval, idx_ref, idxR_lst, idxR_dct, idx_lst, idx_tup, idx_str, idx_dct, atI_0, atI_1, atI_2, atI_3, fld_ref, fldR_ins, getF_cons, getF_nil, putF_cons, putF_nil, stF_ref, stFR_ins, meth_ref, methR_ins, stS_ref, stSR_lst, stSR_dct, toKy_i, toKy_s, toKy_si, toKy_ss, toKy_ii, in_ref, inR_dct, inV_ref, in_ints, in_intsT, del_ref, dctOf_ref, dctR_dct, get2_eq, get2R_some, Option.getD_some, Option.getD_none, delR_S, delR_I, wd_some, leLine_t, ltLine_t, vw_ref, vwR_dct, unlkR, lockK_r, lockO_rt, lockO_nx, slc_lst, slc_tup, slc_str, cutL_1, len_lst, len_tup, len_str, tuple_lst, tuple_tup, list_tup, list_lst, mkL_f, mkL_t, dict_lst, listd_eq, listdR_some, src_lst, src_tup, src_str, src_ref, set_get, new_get, set_nxt, new_nxt, set_set, getK_S, getK_I, getK_SI, getK_SS, kyOk_S, kyOk_I, kyOk_SI, kyOk_SS, delK_S, delK_I, kyW_S, kyW_I, kyW_SI, kyW_SS, Option.isSome_map, Option.isSome_none, Option.isSome_some, Option.map_none, Option.bind_none, inVR_enc, List.append_nil, $as,*])
variable {P : Pg} (hP : PgF P)
include hP
theorem dice_wp {j : Nat} {s : Sto} {c : Int} {Q : KM W} (q : ∀ a b k, Q (.ok (.ref s.nxt)) (s.new (.lst [.int a, .int b, .int k]))) : Wp (atT (tower P (j + 1)) 0 14 [.int c] none) s Q := by
  rw [at0, wp_run hP.n14 rfl]
  by_cases h1 : -10 < c
  · by_cases h2 : c < 10
    · push_cast [f14, b14, h1, h2]
      exact q _ _ _
    · push_cast [f14, b14, h1, h2]
      exact q _ _ _
  · push_cast [f14, b14, h1]
    exact q _ _ _
theorem rounds_wp {j : Nat} {s : Sto} {ns : List Int} {Q : KM W} (q : ∀ a b k, Q (.ok (.lst [.ref s.nxt])) (s.new (.lst [.int a, .int b, .int k]))) : Wp (atT (tower P (j + 2)) 0 16 [.lst (ns.map .int), .int 1] none) s Q := by
  rw [at0, wp_run hP.n16 rfl]
  have e (c : Int) : Wo (exs P (tower P (j + 1)) none (Ss.drop 2 b16) [some (.lst (ns.map .int)), some (.int 1), some (.lst [.int c]), none]) s (RetK false false Q) := by
    simp only [b16, Ss.drop]
    push_cast [M.gather]
    refine dice_wp hP fun a b k => ?_
    push_cast [M.gather, consO]
    exact q a b k
  simp only [f16, b16]
  rw [wxs_cons]
  dsimp? [← List.map_take]
  rw [wxs_cons]
  by_cases h : ns.take 1 = []
  · dsimp? [h]
    rw [wxs_cons]
    dsimp? []
    exact e 0
  · dsimp? [h]
    cases ns with
    | nil => exact (h rfl).elim
    | cons c r => exact e c
theorem init_wp {tw : List F} {s : Sto} {n : Nat} {many time : Int} {Q : KM W} (h : s.get n = some (.ins 10 [])) (hn : n < s.nxt) (hm : 1 ≤ many) (ht : 1 ≤ time)
    (q : ∀ s', s'.nxt = s.nxt + 2 → s'.get n = some (.ins 10 [(0, .int 10), (1, .int (9 + many)), (2, .int time), (3, .ref s.nxt), (4, .ref (s.nxt + 1))]) → s'.get s.nxt = some (.dct false []) → s'.get (s.nxt + 1) = some (.dct false []) → (∀ k, k ≠ n → k < s.nxt → s'.get k = s.get k) → Q (.ok .non) s') : Wp (run P tw 0 [.ref n, .int 10, .int (9 + many), .int time] none) s Q := by
  rw [wp_run hP.n0 rfl]
  have e1 : (10 : Int) ≤ 9 + many := by omega
  have e2 : ¬ time < 1 := by omega
  have n0 : ¬ n = s.nxt := by omega
  have n1 : ¬ n = s.nxt + 1 := by omega
  have n3 : ¬ s.nxt = s.nxt + 1 := by omega
  have n2 : ¬ s.nxt = n := by omega
  have n4 : ¬ s.nxt + 1 = n := by omega
  push_cast [f0, b0, e1, e2, hP.all, h, n0, n1]
  refine q _ ?_ ?_ ?_ ?_ ?_
  · rfl
  · simp [set_get, new_get]
  · simp [set_get, new_get, n0, n1, n2, n3, new_nxt, set_nxt]
  · simp [set_get, new_get, n0, n1, n3, n4, new_nxt, set_nxt]
  · intro k hk hk2
    have : ¬ k = s.nxt := by omega
    have : ¬ k = s.nxt + 1 := by omega
    simp [set_get, new_get, new_nxt, set_nxt, *]
end L

end

section
set_option Elab.async false
set_option linter.all false
set_option maxRecDepth 100000
set_option maxHeartbeats 4000000
namespace L
open Mn
local macro_rules | `(tactic| push_cast [$as,*]) => `(tactic| simp only [↓wv_cst, ↓wv_var, ↓wv_bin, ↓wv_neg, ↓wv_cmp, ↓wv_chn, ↓wv_isN, ↓wv_and, ↓wv_or, ↓wv_not, ↓wv_ite, ↓wv_tup, ↓wv_lst, ↓wv_dct0, ↓wv_fld, ↓wv_idx, ↓wv_slc, ↓wv_call, ↓wv_new, ↓wv_meth, ↓wv_bi, ↓wv_bm, ↓wv_comp, ↓wc_compG, ↓wv_lkd, ↓wv_inV, ↓wv_litems, ↓wv_dget, ↓wv_lam, ↓wv_thk, ↓ws_nil, ↓ws_cons, ↓wt_nil, ↓wt_cons, ↓wq_no, ↓wq_so, ↓wi_seq, ↓wi_rng1, ↓wi_rng2, ↓wi_enum, ↓wi_keys, ↓wi_vals, ↓wi_items, ↓wg_var, ↓wg_tup, ↓wg_sub, ↓wg_fld, ↓wgs_nil, ↓wgs_cons, ↓wx_expr, ↓wx_asg, ↓wx_aug, ↓wx_augF, ↓wx_augS, ↓wx_ret, ↓wx_ret0, ↓wx_iff, ↓wx_forr, ↓wx_forB, ↓wx_whil, ↓wx_whilT, ↓wx_whilB, ↓wx_tryy, ↓wx_del, ↓wo_delM, ↓wx_rais, ↓wx_brk, ↓wx_cnt, ↓wx_pass, ↓wx_lkd, ↓wxs_nil, ↓wxs_cons, ↓wp_ret, ↓wp_bind, ↓wp_of, ↓wp_ofs, ↓wp_op, ↓wp_calm, ↓wp_get, ↓wp_no, ↓wo_toO, ↓wo_seq, ↓wo_end, ↓wp_make, ↓bindK_ok, ↓bindK_er, ↓toOK_ok, ↓toOK_er, ↓seqK_nx, ↓seqK_rt, ↓seqK_bk, ↓seqK_ct, ↓seqK_ex, ↓calmK_ok, ↓retK_nx, ↓retK_rt, ↓retK_rtf, ↓retK_ex, ↓makeK_non, ↓makeK_nonf, ↓makeK_er, ↓tryK_ex, ↓tryK_nx, ↓tryK_rt, ↓tryK_bk, ↓tryK_ct, ↓ifK_t, ↓ifK_f, ↓turnK_nx, ↓turnK_ct, ↓turnK_bk, ↓turnK_rt, ↓turnK_ex, ↓whilK_nx, ↓whilK_ct, ↓whilK_bk, ↓whilK_rt, ↓whilK_ex, w1_some, w1_of, w1_ret, w1_ite, kcW, setE, wipeE, tgSlots, tgsSlots, List.getElem?_cons_zero, List.getElem?_cons_succ, Option.join_some, List.set_cons_zero, List.set_cons_succ, List.append_eq, b2_addI, b2_subI, b2_mulI, b2_fdivI, b2_mdI, b2_powI, b2_addT, b2_addS, b2_addL, c2_eq, c2_ne, c2_lt, c2_le, c2_gt, c2_ge, c2_in, c2_nin, Option.map_some, Option.bind_some, eqc_ii, eqc_ss, eqc_ints, eqc_intsT, eqc_ints0, eqc_intsT0, eqc_nilL, eqc_nilT, eqc_bb, eqc_is, eqc_si, eqc_ns, eqc_sn, eqc_nn, eqc_ni, eqc_in, List.all_cons, List.all_nil, tru_b, tru_i, mtru, biW_int, biW_intb, biW_abs, biW_min2, biW_max2, List.map_cons, List.map_nil, List.length_cons, List.length_nil, List.cons_append, List.nil_append, List.replicate_succ, List.replicate_zero, decide_true, decide_false, decide_eq_true_eq, if_true, if_false, ite_true, ite_false, Bool.not_true, Bool.not_false, reduceIte, and_true, true_and, false_and, and_false, ne_eq, not_true_eq_false, not_false_eq_true, Nat.zero_add, Bool.false_eq_true, reduceCtorEq, decide_not, Nat.sub_zero, eq_self, and_self, valsV_enc, keysV_enc, itemsV_enc, Nat.add_one_sub_one, smallI_eq, smallR_eq, seqOf, lstOf, forall_const, Bool.and_true, Bool.true_and, Bool.or_true, Bool.true_or, Bool.or_false, Bool.false_or, Bool.or_eq_true, Bool.and_eq_true, seval, idx_ref, idxR_lst, idxR_dct, idx_lst, idx_tup, idx_str, idx_dct, atI_0, atI_1, atI_2, atI_3, fld_ref, fldR_ins, getF_cons, getF_nil, putF_cons, putF_nil, stF_ref, stFR_ins, meth_ref, methR_ins, stS_ref, stSR_lst, stSR_dct, toKy_i, toKy_s, toKy_si, toKy_ss, toKy_ii, in_ref, inR_dct, inV_ref, in_ints, in_intsT, del_ref, dctOf_ref, dctR_dct, get2_eq, get2R_some, Option.getD_some, Option.getD_none, delR_S, delR_I, wd_some, leLine_t, ltLine_t, vw_ref, vwR_dct, unlkR, lockK_r, lockO_rt, lockO_nx, slc_lst, slc_tup, slc_str, cutL_1, len_lst, len_tup, len_str, tuple_lst, tuple_tup, list_tup, list_lst, mkL_f, mkL_t, dict_lst, listd_eq, listdR_some, src_lst, src_tup, src_str, src_ref, set_get, new_get, set_nxt, new_nxt, set_set, getK_S, getK_I, getK_SI, getK_SS, kyOk_S, kyOk_I, kyOk_SI, kyOk_SS, delK_S, delK_I, kyW_S, kyW_I, kyW_SI, kyW_SS, Option.isSome_map, Option.isSome_none, Option.isSome_some, Option.map_none, Option.bind_none, inVR_enc, List.append_nil, $as,*])
local macro_rules | `(tactic| simp? [$as,*]) => `(tactic| simp only [↓wv_cst, ↓wv_var, ↓wv_bin, ↓wv_neg, ↓wv_cmp, ↓wv_chn, ↓wv_isN, ↓wv_and, ↓wv_or, ↓wv_not, ↓wv_ite, ↓wv_tup, ↓wv_lst, ↓wv_dct0, ↓wv_fld, ↓wv_idx, ↓wv_slc, ↓wv_call, ↓wv_new, ↓wv_meth, ↓wv_bi, ↓wv_bm, ↓wv_comp, ↓wc_compG, ↓wv_lkd, ↓wv_inV, ↓wv_litems, ↓wv_dget, ↓wv_lam, ↓wv_thk, ↓ws_nil, ↓ws_cons, ↓wt_nil, ↓wt_cons, ↓wq_no, ↓wq_so, ↓wi_seq, ↓wi_rng1, ↓wi_rng2, ↓wi_enum, ↓wi_keys, ↓wi_vals, ↓wi_items, ↓wg_var, ↓wg_tup, ↓wg_sub, ↓wg_fld, ↓wgs_nil, ↓wgs_cons, ↓wx_expr, ↓wx_asg, ↓wx_aug, ↓wx_augF, ↓wx_augS, ↓wx_ret, ↓wx_ret0, ↓wx_iff, ↓wx_forr, ↓wx_forB, ↓wx_whil, ↓wx_whilT, ↓wx_whilB, ↓wx_tryy, ↓wx_del, ↓wo_delM, ↓wx_rais, ↓wx_brk, ↓wx_cnt, ↓wx_pass, ↓wx_lkd, ↓wxs_nil, ↓wxs_cons, ↓wp_ret, ↓wp_bind, ↓wp_of, ↓wp_ofs, ↓wp_op, ↓wp_calm, ↓wp_get, ↓wp_no, ↓wo_toO, ↓wo_seq, ↓wo_end, ↓wp_make, ↓bindK_ok, ↓bindK_er, ↓toOK_ok, ↓toOK_er, ↓seqK_rt, ↓seqK_bk, ↓seqK_ct, ↓seqK_ex, ↓calmK_ok, ↓retK_nx, ↓retK_rt, ↓retK_rtf, ↓retK_ex, ↓makeK_non, ↓makeK_nonf, ↓makeK_er, ↓tryK_ex, ↓tryK_nx, ↓tryK_rt, ↓tryK_bk, ↓tryK_ct, ↓ifK_t, ↓ifK_f, ↓turnK_nx, ↓turnK_ct, ↓turnK_bk, ↓turnK_rt, ↓turnK_ex, ↓whilK_nx, ↓whilK_ct, ↓whilK_bk, ↓whilK_rt, ↓whilK_ex, w1_some, w1_of, w1_ret, w1_ite, kcW, setE, wipeE, tgSlots, tgsSlots, List.getElem?_cons_zero, List.getElem?_cons_succ, Option.join_some, List.set_cons_zero, List.set_cons_succ, List.append_eq, b2_addI, b2_subI, b2_mulI, b2_fdivI, b2_mdI, b2_powI, b2_addT, b2_addS, b2_addL, c2_eq, c2_ne, c2_lt, c2_le, c2_gt, c2_ge, c2_in, c2_nin, Option.map_some, Option.bind_some, eqc_ii, eqc_ss, eqc_ints, eqc_intsT, eqc_ints0, eqc_intsT0, eqc_nilL, eqc_nilT, eqc_bb, eqc_is, eqc_si, eqc_ns, eqc_sn, eqc_nn, eqc_ni, eqc_in, List.all_cons, List.all_nil, tru_b, tru_i, mtru, biW_int, biW_intb, biW_abs, biW_min2, biW_max2, List.map_cons, List.map_nil, List.length_cons, List.length_nil, List.cons_append, List.nil_append, List.replicate_succ, List.replicate_zero, decide_true, decide_false, decide_eq_true_eq, if_true, if_false, ite_true, ite_false, Bool.not_true, Bool.not_false, reduceIte, and_true, true_and, false_and, and_false, ne_eq, not_true_eq_false, not_false_eq_true, Nat.zero_add, Bool.false_eq_true, reduceCtorEq, decide_not, Nat.sub_zero, eq_self, and_self, valsV_enc, keysV_enc, itemsV_enc, Nat.add_one_sub_one, smallI_eq, smallR_eq, seqOf, lstOf, forall_const, Bool.and_true, Bool.true_and, Bool.or_true, Bool.true_or, Bool.or_false, Bool.false_or, Bool.or_eq_true, Bool.and_eq_true, seval, idx_ref, idxR_lst, idxR_dct, idx_lst, idx_tup, idx_str, idx_dct, atI_0, atI_1, atI_2, atI_3, fld_ref, fldR_ins, getF_cons, getF_nil, putF_cons, putF_nil, stF_ref, stFR_ins, meth_ref, methR_ins, stS_ref, stSR_lst, stSR_dct, toKy_i, toKy_s, toKy_si, toKy_ss, toKy_ii, in_ref, inR_dct, inV_ref, in_ints, in_intsT, del_ref, dctOf_ref, dctR_dct, get2_eq, get2R_some, Option.getD_some, Option.getD_none, delR_S, delR_I, wd_some, leLine_t, ltLine_t, vw_ref, vwR_dct, unlkR, lockK_r, lockO_rt, lockO_nx, slc_lst, slc_tup, slc_str, cutL_1, len_lst, len_tup, len_str, tuple_lst, tuple_tup, list_tup, list_lst, mkL_f, mkL_t, dict_lst, listd_eq, listdR_some, src_lst, src_tup, src_str, src_ref, set_get, new_get, set_nxt, new_nxt, set_set, getK_S, getK_I, getK_SI, getK_SS, kyOk_S, kyOk_I, kyOk_SI, kyOk_SS, delK_S, delK_I, kyW_S, kyW_I, kyW_SI, kyW_SS, Option.isSome_map, Option.isSome_none, Option.isSome_some, Option.map_none, Option.bind_none, inVR_enc, List.append_nil, $as,*])
local macro_rules | `(tactic| dsimp? [$as,*]) => `(tactic| simp only [↓wv_cst, ↓wv_var, ↓wv_bin, ↓wv_neg, ↓wv_cmp, ↓wv_chn, ↓wv_isN, ↓wv_and, ↓wv_or, ↓wv_not, ↓wv_ite, ↓wv_tup, ↓wv_lst, ↓wv_dct0, ↓wv_fld, ↓wv_idx, ↓wv_slc, ↓wv_call, ↓wv_new, ↓wv_meth, ↓wv_bi, ↓wv_bm, ↓wv_comp, ↓wc_compG, ↓wv_lkd, ↓wv_inV, ↓wv_litems, ↓wv_dget, ↓wv_lam, ↓wv_thk, ↓ws_nil, ↓ws_cons, ↓wt_nil, ↓wt_cons, ↓wq_no, ↓wq_so, ↓wi_seq, ↓wi_rng1, ↓wi_rng2, ↓wi_enum, ↓wi_keys, ↓wi_vals, ↓wi_items, ↓wg_var, ↓wg_tup, ↓wg_sub, ↓wg_fld, ↓wgs_nil, ↓wgs_cons, ↓wx_expr, ↓wx_asg, ↓wx_aug, ↓wx_augF, ↓wx_augS, ↓wx_ret, ↓wx_ret0, ↓wx_iff, ↓wx_forr, ↓wx_forB, ↓wx_whil, ↓wx_whilT, ↓wx_whilB, ↓wx_tryy, ↓wx_del, ↓wo_delM, ↓wx_rais, ↓wx_brk, ↓wx_cnt, ↓wx_pass, ↓wx_lkd, ↓wxs_nil, ↓wp_ret, ↓wp_bind, ↓wp_of, ↓wp_ofs, ↓wp_op, ↓wp_calm, ↓wp_get, ↓wp_no, ↓wo_toO, ↓wo_seq, ↓wo_end, ↓wp_make, ↓bindK_ok, ↓bindK_er, ↓toOK_ok, ↓toOK_er, ↓seqK_nx, ↓seqK_rt, ↓seqK_bk, ↓seqK_ct, ↓seqK_ex, ↓calmK_ok, ↓retK_nx, ↓retK_rt, ↓retK_rtf, ↓retK_ex, ↓makeK_non, ↓makeK_nonf, ↓makeK_er, ↓tryK_ex, ↓tryK_nx, ↓tryK_rt, ↓tryK_bk, ↓tryK_ct, ↓ifK_t, ↓ifK_f, ↓turnK_nx, ↓turnK_ct, ↓turnK_bk, ↓turnK_rt, ↓turnK_ex, ↓whilK_nx, ↓whilK_ct, ↓whilK_bk, ↓whilK_rt, ↓whilK_ex, w1_some, w1_of, w1_ret, w1_ite, kcW, setE, wipeE, tgSlots, tgsSlots, List.getElem?_cons_zero, List.getElem?_cons_succ, Option.join_some, List.set_cons_zero, List.set_cons_succ, List.append_eq, b2_addI, b2_subI, b2_mulI, b2_fdivI, b2_mdI, b2_powI, b2_addT, b2_addS, b2_addL, c2_eq, c2_ne, c2_lt, c2_le, c2_gt, c2_ge, c2_in, c2_nin, Option.map_some, Option.bind_some, eqc_ii, eqc_ss, eqc_ints, eqc_intsT, eqc_ints0, eqc_intsT0, eqc_nilL, eqc_nilT, eqc_bb, eqc_is, eqc_si, eqc_ns, eqc_sn, eqc_nn, eqc_ni, eqc_in, List.all_cons, List.all_nil, tru_b, tru_i, mtru, biW_int, biW_intb, biW_abs, biW_min2, biW_max2, List.map_cons, List.map_nil, List.length_cons, List.length_nil, List.cons_append, List.nil_append, List.replicate_succ, List.replicate_zero, decide_true, decide_false, decide_eq_true_eq, if_true, if_false, ite_true, ite_false, Bool.not_true, Bool.not_false, reduceIte, and_true, true_and, false_and, and_false, ne_eq, not_true_eq_false, not_false_eq_true, Nat.zero_add, Bool.false_eq_true, reduceCtorEq, decide_not, Nat.sub_zero, eq_self, and_self, valsV_enc, keysV_enc, itemsV_enc, Nat.add_one_sub_one, smallI_eq, smallR_eq, seqOf, lstOf, forall_const, Bool.and_true, Bool.true_and, Bool.or_true, Bool.true_or, Bool.or_false, Bool.false_or, Bool.or_eq_true, Bool.and_eq_true, seval, idx_ref, idxR_lst, idxR_dct, idx_lst, idx_tup, idx_str, idx_dct, atI_0, atI_1, atI_2, atI_3, fld_ref, fldR_ins, getF_cons, getF_nil, putF_cons, putF_nil, stF_ref, stFR_ins, meth_ref, methR_ins, stS_ref, stSR_lst, stSR_dct, toKy_i, toKy_s, toKy_si, toKy_ss, toKy_ii, in_ref, inR_dct, inV_ref, in_ints, in_intsT, del_ref, dctOf_ref, dctR_dct, get2_eq, get2R_some, Option.getD_some, Option.getD_none, delR_S, delR_I, wd_some, leLine_t, ltLine_t, vw_ref, vwR_dct, unlkR, lockK_r, lockO_rt, lockO_nx, slc_lst, slc_tup, slc_str, cutL_1, len_lst, len_tup, len_str, tuple_lst, tuple_tup, list_tup, list_lst, mkL_f, mkL_t, dict_lst, listd_eq, listdR_some, src_lst, src_tup, src_str, src_ref, set_get, new_get, set_nxt, new_nxt, set_set, getK_S, getK_I, getK_SI, getK_SS, kyOk_S, kyOk_I, kyOk_SI, kyOk_SS, delK_S, delK_I, kyW_S, kyW_I, kyW_SI, kyW_SS, Option.isSome_map, Option.isSome_none, Option.isSome_some, Option.map_none, Option.bind_none, inVR_enc, List.append_nil, $as,*])
variable {P : Pg} (hP : PgF P)
abbrev Rv := Int × Int × List Nm × List Nm
abbrev Rc := List ((Nm × Int) × Rv)
abbrev Fl := List (Int × (Nm × Int))
def eRp (v : Rv) : W := .tup [.int v.1, .int v.2.1, .tup (v.2.2.1.map .str)]
def eRl (v : Rv) : W := .tup [.int v.1, .int v.2.1, .lst (v.2.2.2.map .str)]
def eF (v : Nm × Int) : W := .tup [.str v.1, .int v.2]
structure Gt (s : Sto) (g rp fx : Nat) (many time : Int) (rc : Rc) (fl : Fl) : Prop where
  a : s.get g = some (.ins 11 [(0, .int 50), (1, .int (49 + many)), (2, .int time), (7, .ref rp), (8, .ref fx)])
  b : s.get rp = some (.dct false (encD eSI eRp rc))
  c : s.get fx = some (.dct false (encD eI eF fl))
  g1 : g < s.nxt
  g2 : rp < s.nxt
  g3 : fx < s.nxt
  n1 : g ≠ rp
  n2 : g ≠ fx
  n3 : rp ≠ fx
def alive (time m : Int) (rc : Rc) : Rc := rc.filter fun p => decide (m - p.2.2.1 < time)
include hP
theorem ginit_wp {tw : List F} {s : Sto} {n : Nat} {many time : Int} {Q : KM W} (h : s.get n = some (.ins 11 [])) (hn : n < s.nxt) (hm : 1 ≤ many) (ht : 1 ≤ time)
    (q : ∀ s', s'.nxt = s.nxt + 2 → Gt s' n s.nxt (s.nxt + 1) many time [] [] → (∀ k, k ≠ n → k < s.nxt → s'.get k = s.get k) → Q (.ok .non) s') : Wp (run P tw 8 [.ref n, .int 50, .int (49 + many), .int time] none) s Q := by
  rw [wp_run hP.n8 rfl]
  have e1 : (50 : Int) ≤ 49 + many := by omega
  have e2 : ¬ time < 1 := by omega
  have n0 : ¬ n = s.nxt := by omega
  have n1 : ¬ n = s.nxt + 1 := by omega
  have n3 : ¬ s.nxt = s.nxt + 1 := by omega
  have n2 : ¬ s.nxt = n := by omega
  have n4 : ¬ s.nxt + 1 = n := by omega
  push_cast [f8, b8, e1, e2, hP.all, h, n0, n1]
  refine q _ rfl ⟨?_, ?_, ?_, ?_, ?_, ?_, n0, n1, n3⟩ ?_
  · simp [set_get, new_get]
  · simp [set_get, new_get, n0, n1, n2, n3, new_nxt, set_nxt, encD]
  · simp [set_get, new_get, n0, n1, n3, n4, new_nxt, set_nxt, encD]
  · simp [set_nxt, new_nxt]; omega
  · simp only [set_nxt, new_nxt]; omega
  · simp only [set_nxt, new_nxt]; omega
  · intro k hk hk2
    have : ¬ k = s.nxt := by omega
    have : ¬ k = s.nxt + 1 := by omega
    simp [set_get, new_get, new_nxt, set_nxt, *]
theorem forget_wp {j : Nat} {s : Sto} {g rp fx : Nat} {many time m : Int} {rc : Rc} {fl : Fl} {Q : KM W} (G : Gt s g rp fx many time rc fl) (hl : rc.length ≤ 6) (hk : (rc.map (·.1)).Nodup)
    (q : ∀ s', s'.nxt = s.nxt + 1 → Gt s' g s.nxt fx many time (alive time m rc) fl → (∀ k, k ≠ g → k < s.nxt → s'.get k = s.get k) → Q (.ok .non) s') : Wp (atT (tower P (j + 1)) 0 12 [.ref g, .int m] none) s Q := by
  have ha := G.a; have hb := G.b; have hc := G.c
  have n1 := G.n1; have n2 := G.n2; have n3 := G.n3
  have g1 := G.g1; have g2 := G.g2; have g3 := G.g3
  rw [at0, wp_run hP.n12 rfl]
  push_cast [f12, b12, hP.all]
  rw [wp_lock (n := rp) (kvs := encD eSI eRp rc) (by simp [lkN, insOf, getF, ha, hb])]
  push_cast [hP.all, ha, n1]
  refine wp_comp (inj := fun p : (Nm × Int) × Rv => .tup [kyW (eSI p.1), eRp p.2]) (p := fun p => decide (m - p.2.2.1 < time)) (emb := fun p => .tup [kyW (eSI p.1), eRp p.2]) (g := fun p => p) rc (alive time m rc) rfl (by simp [alive]) ?_ (by simp [set_get, beqD_self]) ?_
  · rintro ⟨⟨x, i⟩, p, t, as, fs⟩ hx
    by_cases c : m - t < time
    · push_cast [hP.all, ha, n1, eRp, c]
    · push_cast [hP.all, ha, n1, eRp, c]
  have dl : (alive time m rc).length ≤ 6 := Nat.le_trans (List.length_filter_le _ _) hl
  have ps : pairsOf ((alive time m rc).map fun p => .tup [.tup [.str p.1.1, .int p.1.2], eRp p.2]) = some (encD eSI eRp (alive time m rc)) := pairs_enc (ke := eSI) eSI_inj (fun _ => rfl) (.inr fun _ => rfl) (nodup_filter hk)
  have n0 : ¬ g = s.nxt := by omega
  have n4 : ¬ s.nxt = g := by omega
  have n5 : ¬ fx = s.nxt := by omega
  push_cast [hP.all, set_self hb, ps, encD_len, ha, n0]
  refine ⟨le_line (by rw [List.length_map]; omega), le_line (by omega), ?_⟩
  refine q _ rfl ⟨?_, ?_, ?_, ?_, ?_, ?_, n0, n2, Ne.symm n5⟩ ?_
  · simp [set_get]
  · simp [set_get, new_get, n4]
  · simp [set_get, new_get, n5, Ne.symm n2, hc]
  · simp [set_nxt, new_nxt]; omega
  · simp [set_nxt, new_nxt]
  · simp [set_nxt, new_nxt]; omega
  · intro k hk hk2
    have : ¬ k = s.nxt := by omega
    simp [set_get, new_get, *]
omit hP in
theorem putR {t : Nm} {i p u : Int} {as : List Nm} (fs : List Nm) {l : Rc} : putK (.many [.str t, .int i]) (.tup [.int p, .int u, .tup (as.map .str)]) (encD eSI eRp l) = encD eSI eRp (pt (t, i) (p, u, as, fs) l) := putK_SI (ve := eRp) (p, u, as, fs)
def freeG (many : Int) (rc : Rc) : List Int := (rangeI 50 many.toNat).filter fun a => !decide (a ∈ rc.map (·.2.1))
def outP (many : Int) (k : Nm × Int) (to : Nm) (m : Int) (rc : Rc) : Option (Int × Rc) := match lk k rc with
  | some (p, _, as, fs) => some (p, pt k (p, m, if to ∈ as then as else as ++ [to], fs ++ [to]) rc)
  | none => (match freeG many rc with
    | [] => none
    | p :: _ => some (p, pt k (p, m, [to], [to]) rc))
def fixL (b : Bool) : Fl := if b then [(90, ([119, 101, 98], 80))] else []
omit hP in
theorem any_strs {s : Sto} {t : Nm} (ht : t.all (fun c => decide (c < 1114112)) = true) {l : List Nm} (hl : ∀ x ∈ l, x.all (fun c => decide (c < 1114112)) = true) : inW s (.str t) (.tup (l.map .str)) = some (decide (t ∈ l)) := by
  rw [in_tup, dat_s ht]
  have h1 : ∀ {l : List Nm}, (∀ x ∈ l, x.all (fun c => decide (c < 1114112)) = true) → dataL 48 (l.map .str) = true := fun {l} => by
    induction l with
    | nil => intro _; rfl
    | cons a r ih => intro h; simp only [List.map_cons, dataL, dataW, h a (by simp), ih fun x hx => h x (by simp [hx]), Bool.and_self]
  simp only [h1 hl, if_true, List.any_map]
  congr 1
  rw [Bool.eq_iff_iff]
  simp [Function.comp_def, eqW]
omit hP in
theorem eqc_key {s : Sto} {t u : Nm} {i k : Int} (ht : t.all (fun c => decide (c < 1114112)) = true) (hu : u.all (fun c => decide (c < 1114112)) = true) : eqC s (.tup [.str t, .int i]) (.tup [.str u, .int k]) = some (decide ((t, i) = (u, k))) := by
  rw [eqc_dat (x' := .tup [.str t, .int i]) (y' := .tup [.str u, .int k]) (by simp [datOf, dataW, dataL]; simpa using ht) (by simp [datOf, dataW, dataL]; simpa using hu)]
  simp only [eqW, eqL, Bool.and_true, Option.some.injEq, Prod.mk.injEq]
  rw [Bool.eq_iff_iff]
  simp
theorem out_wp {j : Nat} {s : Sto} {g rp fx : Nat} {many time m pr : Int} {h to : Nm} {rc : Rc} {b : Bool} {Q : KM W} (G : Gt s g rp fx many time rc (fixL b)) (hm : 1 ≤ many ∧ many ≤ 4) (hl : rc.length ≤ 6) (hk : (rc.map (·.1)).Nodup)
    (hh : h.all (fun c => decide (c < 1114112)) = true) (hto : to.all (fun c => decide (c < 1114112)) = true) (has : ∀ p ∈ rc, ∀ x ∈ p.2.2.2.1, x.all (fun c => decide (c < 1114112)) = true) (hw : h ≠ [119, 101, 98]) (hal : ∀ p ∈ rc, p.2.2.2.1.length ≤ 100)
    (q : ∀ s' rp' r, s'.nxt = s.nxt + 1 → (∀ k, k ≠ g → k < s.nxt → s'.get k = s.get k) → rp' = s.nxt → (match outP many (h, pr) to m (alive time m rc) with
      | some (p, rc') => r = .ok (.int p) ∧ Gt s' g rp' fx many time rc' (fixL b)
      | none => r = .error ⟨8, none⟩ ∧ Gt s' g rp' fx many time (alive time m rc) (fixL b)) → Q r s') : Wp (atT (tower P (j + 2)) 0 10 [.ref g, .str h, .int pr, .str to, .int m] none) s Q := by
  have ha := G.a; have hb := G.b; have hc := G.c
  have n1 := G.n1; have n2 := G.n2; have n3 := G.n3
  have g1 := G.g1; have g2 := G.g2; have g3 := G.g3
  rw [at0, wp_run hP.n10 rfl]
  have t1 : Wo (exs P (tower P (j + 1)) none (Ss.drop 1 b10) [some (.ref g), some (.str h), some (.int pr), some (.str to), some (.int m), (if b then some (.int 90) else none), (if b then some (.tup [.str [119, 101, 98], .int 80]) else none), none, none, none, none, none, none]) s (RetK false false Q) := by
    simp only [b10, Ss.drop]
    rw [wxs_cons]
    dsimp? [hP.all, ha]
    refine forget_wp hP G hl hk ?_
    intro s1 x1 G1 fr1
    have ha := G1.a; have hb := G1.b; have hc := G1.c
    have m1 := G1.n1; have m2 := G1.n2; have m3 := G1.n3
    have hl1 : (alive time m rc).length ≤ 6 := Nat.le_trans (List.length_filter_le _ _) hl
    have has1 : ∀ p ∈ alive time m rc, ∀ x ∈ p.2.2.2.1, x.all (fun c => decide (c < 1114112)) = true := fun p hp => has p (List.mem_filter.mp hp).1
    have hal1 : ∀ p ∈ alive time m rc, p.2.2.2.1.length ≤ 100 := fun p hp => hal p (List.mem_filter.mp hp).1
    generalize alive time m rc = rc1 at q hb hl1 has1 hal1 G1
    generalize s.nxt = rp1 at q G1 x1 fr1 ha hb m1 m2 m3
    have t3 (o7 o8 o11 o12) (s2 : Sto) (x2 : s2.nxt = s1.nxt) (rc2 : Rc) (hl2 : rc2.length ≤ 7) (fr2 : ∀ k, k ≠ rp1 → s2.get k = s1.get k) (hb2 : s2.get rp1 = some (.dct false (encD eSI eRp rc2))) (p t : Int) (as fs : List Nm) (e : lk (h, pr) rc2 = some (p, t, as, fs)) (hchk : ∀ x ∈ as, x.all (fun c => decide (c < 1114112)) = true) (hasl : as.length ≤ 100)
        (q : ∀ s', s'.nxt = s1.nxt → (∀ k, k ≠ rp1 → s'.get k = s1.get k) → s'.get rp1 = some (.dct false (encD eSI eRp (pt (h, pr) (p, m, if to ∈ as then as else as ++ [to], fs ++ [to]) rc2))) → Q (.ok (.int p)) s') : Wo (exs P (tower P (j + 1)) none (Ss.drop 3 b10) [some (.ref g), some (.str h), some (.int pr), some (.str to), some (.int m), (if b then some (.int 90) else none), (if b then some (.tup [.str [119, 101, 98], .int 80]) else none), o7, o8, none, none, o11, o12]) s2 (RetK false false Q) := by
      have ha2 := (fr2 g m1).trans ha
      simp only [b10, Ss.drop]
      rw [wxs_cons]
      dsimp? [hP.all, ha2, hb2, e, eRp]
      rw [wxs_cons]
      by_cases c : to ∈ as
      · dsimp? [hP.all, ha2, hb2, any_strs hto hchk, c, encD_len, putR (fs ++ [to])]
        refine ⟨lt_line (by omega), ?_⟩
        rw [wxs_cons]
        dsimp? []
        refine q _ (by simp only [set_nxt]; exact x2) (fun k hk => by simp only [set_get, hk, if_false]; exact fr2 k hk) (by simp [set_get, c])
      · have e5 : as.map W.str ++ [W.str to] = (as ++ [to]).map W.str := by simp
        dsimp? [hP.all, ha2, hb2, any_strs hto hchk, c, encD_len, e5, putR (fs ++ [to])]
        refine ⟨le_line (by rw [List.length_map]; omega), lt_line (by omega), ?_⟩
        rw [wxs_cons]
        dsimp? []
        refine q _ (by simp only [set_nxt]; exact x2) (fun k hk => by simp only [set_get, hk, if_false]; exact fr2 k hk) (by simp [set_get, c])
    have fin (rc' : Rc) (s' : Sto) (y1 : s'.nxt = s1.nxt) (y2 : ∀ k, k ≠ rp1 → s'.get k = s1.get k) (y3 : s'.get rp1 = some (.dct false (encD eSI eRp rc'))) : Gt s' g rp1 fx many time rc' (fixL b) :=
      ⟨(y2 g m1).trans ha, y3, (y2 fx (Ne.symm m3)).trans hc, by rw [y1]; exact G1.g1, by rw [y1]; exact G1.g2, by rw [y1]; exact G1.g3, m1, m2, m3⟩
    dsimp? []
    rw [wxs_cons]
    unfold outP at q
    cases e : lk (h, pr) rc1 with
    | some v =>
      obtain ⟨p, t, as, fs⟩ := v
      dsimp? [hP.all, ha, hb, e]
      refine t3 none none none none s1 rfl rc1 (by omega) (fun _ _ => rfl) hb p t as fs e (has1 _ (lk_some e)) (hal1 _ (lk_some e)) ?_
      intro s' y1 y2 y3
      refine q s' rp1 _ (y1.trans x1) (fun k z1 z2 => (y2 k (by omega)).trans (fr1 k z1 z2)) rfl ?_
      simp only [e, true_and]
      exact fin _ s' y1 y2 y3
    | none =>
      dsimp? [hP.all, ha, hb, e]
      rw [wxs_cons]
      dsimp? [hP.all, ha]
      rw [wp_lock (n := rp1) (kvs := encD eSI eRp rc1) (by simp [lkN, insOf, getF, ha, hb])]
      dsimp? [hP.all, ha, m1]
      refine wp_comp1 (inj := fun p : (Nm × Int) × Rv => eRp p.2) (emb := .int) (g := fun p => p.2.1) rc1 (rc1.map (·.2.1)) rfl rfl ?_ (by simp [set_get, beqD_self]) ?_
      · rintro ⟨⟨x, i⟩, p, t, as, fs⟩ hx
        push_cast [eRp]
      dsimp? [hP.all, ha, hb, hc, m1, set_self hb]
      have e7 : rc1.map (fun x => x.2.1) = rc1.map (·.2.1) := rfl
      have e8 : (fixL b).map (fun p => W.int p.1) = ((fixL b).map (·.1)).map .int := by rw [List.map_map]; rfl
      rw [e8, ← List.map_append]
      have fl1 : (fixL b).length ≤ 1 := by cases b <;> simp [fixL]
      refine ⟨le_line (by simp only [List.length_map]; omega), le_line (by simp only [List.length_map]; omega), le_line (by simp only [List.length_map]; omega), ?_⟩
      rw [wxs_cons]
      dsimp? [hP.all, ha]
      have e9 : (49 + many + 1 - 50).toNat = many.toNat := by omega
      refine ⟨by omega, ?_⟩
      refine wp_comp (inj := .int) (p := fun a => !decide (a ∈ rc1.map (·.2.1) ++ (fixL b).map (·.1))) (emb := .int) (g := fun a => a) (rangeI 50 many.toNat) (freeG many rc1) (by rw [e9, rangeL_eq]) ?_ ?_ rfl ?_
      · rw [List.map_id']
        unfold freeG
        apply List.filter_congr
        intro a ha
        rw [mem_rangeI] at ha
        have : a ∉ (fixL b).map (·.1) := by
          cases b
          · simp [fixL]
          · simp [fixL]; omega
        simp [this]
      · intro a ha
        by_cases c : a ∈ rc1.map (·.2.1) ++ (fixL b).map (·.1)
        all_goals push_cast [c]
      have hf : (freeG many rc1).length ≤ 4 := by
        unfold freeG
        refine Nat.le_trans (List.length_filter_le _ _) ?_
        rw [rangeI_len]
        omega
      dsimp? []
      refine ⟨le_line (by rw [List.length_map]; omega), ?_⟩
      rw [wxs_cons]
      by_cases c : freeG many rc1 = []
      · dsimp? [c]
        rw [wxs_cons]
        dsimp? [hP.all]
        refine q s1 rp1 _ x1 (fun k z1 z2 => fr1 k z1 z2) rfl ?_
        simp only [e, c, true_and]
        exact G1
      · dsimp? [c]
        obtain ⟨p, fr, e10⟩ : ∃ p fr, freeG many rc1 = p :: fr := by
          cases z : freeG many rc1 with
          | nil => exact (c z).elim
          | cons p fr => exact ⟨p, fr, rfl⟩
        rw [wxs_cons]
        have e11 : (.tup [.int p, .int m, .tup []] : W) = .tup [.int p, .int m, .tup (([] : List Nm).map .str)] := rfl
        rw [e10]
        dsimp? [hP.all, ha, hb, encD_len]
        rw [e11, putR []]
        refine ⟨lt_line (by omega), ?_⟩
        refine t3 _ _ _ _ _ rfl (pt (h, pr) (p, m, [], []) rc1) (Nat.le_trans pt_len (by omega)) (fun k hk => by simp [set_get, hk]) (by simp [set_get]) p m [] [] lk_pt_same (by simp) (by simp) ?_
        intro s' y1 y2 y3
        refine q s' rp1 _ (y1.trans x1) (fun k z1 z2 => (y2 k (by omega)).trans (fr1 k z1 z2)) rfl ?_
        simp only [e, e10, true_and]
        rw [pt_pt] at y3
        exact fin _ s' y1 y2 (by simpa using y3)
  simp only [f10, b10]
  rw [wxs_cons]
  cases b with
  | false =>
    dsimp? []
    rw [wo_lock (n := fx) (kvs := []) (by simp [lkN, insOf, getF, ha, hc, fixL, encD])]
    dsimp? [hP.all, ha, n2, itemsV, turns_nil]
    rw [set_self (by simpa [fixL, encD] using hc)]
    exact t1
  | true =>
    dsimp? []
    rw [wo_lock (n := fx) (kvs := encD eI eF (fixL true)) (by simp [lkN, insOf, getF, ha, hc])]
    have ck : ¬ ([119, 101, 98], (80 : Int)) = (h, pr) := by simp [Ne.symm hw]
    have kk : ([119, 101, 98] : Nm).all (fun c => decide (c < 1114112)) = true := by decide
    have e6 : itemsV (encD eI eF (fixL true)) = [.tup [.int 90, .tup [.str [119, 101, 98], .int 80]]] := rfl
    dsimp? [hP.all, ha, n2, -itemsV_enc, e6, turns_nil, turns_cons]
    rw [wxs_cons]
    dsimp? [eqc_key kk hh, ck, turns_nil, beqD_self, set_self hc]
    exact t1
def comeP (port : Int) (far : Nm) (m : Int) (rc : Rc) : Option ((Nm × Int) × Rc) := match rc.find? (fun p => decide (p.2.1 = port) && decide (far ∈ p.2.2.2.1)) with
  | some (k, p, _, as, fs) => some (k, pt k (p, m, as, fs) rc)
  | none => none
theorem come_wp {j : Nat} {s : Sto} {g rp fx : Nat} {many time m port : Int} {far : Nm} {rc : Rc} {b : Bool} {Q : KM W} (G : Gt s g rp fx many time rc (fixL b)) (hl : rc.length ≤ 6) (hk : (rc.map (·.1)).Nodup)
    (hto : far.all (fun c => decide (c < 1114112)) = true) (has : ∀ p ∈ rc, ∀ x ∈ p.2.2.2.1, x.all (fun c => decide (c < 1114112)) = true) (hp : port ≠ 90)
    (q : ∀ s' rp' r, s'.nxt = s.nxt + 1 → (∀ k, k ≠ g → k < s.nxt → s'.get k = s.get k) → rp' = s.nxt → (match comeP port far m (alive time m rc) with
      | some (k, rc') => r = .ok (.tup [.str k.1, .int k.2]) ∧ Gt s' g rp' fx many time rc' (fixL b)
      | none => r = .error ⟨7, none⟩ ∧ Gt s' g rp' fx many time (alive time m rc) (fixL b)) → Q r s') : Wp (atT (tower P (j + 2)) 0 11 [.ref g, .int port, .str far, .int m] none) s Q := by
  have ha := G.a; have hb := G.b; have hc := G.c
  have n1 := G.n1; have n2 := G.n2; have n3 := G.n3
  have g1 := G.g1; have g2 := G.g2; have g3 := G.g3
  have e0 : lk port (fixL b) = none := by
    cases b
    · rfl
    · simp [fixL, lk, Ne.symm hp]
  rw [at0, wp_run hP.n11 rfl]
  simp only [f11, b11]
  rw [wxs_cons]
  dsimp? [hP.all, ha, hc, e0]
  rw [wxs_cons]
  dsimp? [hP.all, ha]
  refine forget_wp hP G hl hk ?_
  intro s1 x1 G1 fr1
  have ha := G1.a; have hb := G1.b; have hc := G1.c
  have m1 := G1.n1; have m2 := G1.n2; have m3 := G1.n3
  have hl1 : (alive time m rc).length ≤ 6 := Nat.le_trans (List.length_filter_le _ _) hl
  have has1 : ∀ p ∈ alive time m rc, ∀ x ∈ p.2.2.2.1, x.all (fun c => decide (c < 1114112)) = true := fun p hp => has p (List.mem_filter.mp hp).1
  generalize alive time m rc = rc1 at q hb hl1 has1 G1
  generalize s.nxt = rp1 at q G1 x1 fr1 ha hb m1 m2 m3
  dsimp? []
  rw [wxs_cons]
  dsimp? [hP.all, ha, hb]
  refine ⟨le_line (by rw [List.length_map]; omega), ?_⟩
  unfold comeP at q
  refine wo_turnsM (fun p : (Nm × Int) × Rv => .tup [.tup [.str p.1.1, .int p.1.2], eRp p.2]) (fun tl ρ s' => s' = s1 ∧ ∃ o4 o5 o6 o7, (∀ p ∈ tl, p ∈ rc1) ∧ rc1.find? (fun p => decide (p.2.1 = port) && decide (far ∈ p.2.2.2.1)) = tl.find? (fun p => decide (p.2.1 = port) && decide (far ∈ p.2.2.2.1)) ∧ ρ = [some (.ref g), some (.int port), some (.str far), some (.int m), o4, o5, o6, o7]) ?_ ?_ (xs := rc1) rfl ?_
  · rintro ⟨⟨x, i⟩, p, t, as, fs⟩ r ρ s' ⟨rfl, o4, o5, o6, o7, hsub, hf, rfl⟩
    have hchk := has1 _ (hsub _ (List.mem_cons_self ..))
    push_cast [eRp]
    have nx : rc1.find? (fun p => decide (p.2.1 = port) && decide (far ∈ p.2.2.2.1)) = r.find? (fun p => decide (p.2.1 = port) && decide (far ∈ p.2.2.2.1)) → ∃ o4' o5' o6' o7', (∀ p ∈ r, p ∈ rc1) ∧ rc1.find? (fun p => decide (p.2.1 = port) && decide (far ∈ p.2.2.2.1)) = r.find? (fun p => decide (p.2.1 = port) && decide (far ∈ p.2.2.2.1)) ∧ ([some (.ref g), some (.int port), some (.str far), some (.int m), some (.tup [.str x, .int i]), some (.int p), some (.int t), some (.tup (as.map .str))] : Env) = [some (.ref g), some (.int port), some (.str far), some (.int m), o4', o5', o6', o7'] := fun h => ⟨_, _, _, _, fun p hp => hsub p (List.mem_cons_of_mem _ hp), h, rfl⟩
    by_cases c : p = port
    · by_cases c2 : far ∈ as
      · push_cast [hP.all, ha, hb, c, c2, any_strs hto hchk, encD_len, putR fs]
        refine ⟨lt_line (by omega), ?_⟩
        refine q _ rp1 _ x1 (fun k z1 z2 => ?_) rfl ?_
        · simp only [set_get]
          rw [if_neg (by omega)]
          exact fr1 k z1 z2
        · rw [hf, List.find?_cons_of_pos (by simp [c, c2])]
          subst c
          refine ⟨rfl, ?_⟩
          exact ⟨by simp [set_get, m1, ha], by simp [set_get], by simp [set_get, Ne.symm m3, hc], G1.g1, G1.g2, G1.g3, m1, m2, m3⟩
      · push_cast [hP.all, ha, hb, c, c2, any_strs hto hchk]
        rw [c] at nx
        exact nx (by rw [hf, List.find?_cons_of_neg (by simp [c2])])
    · push_cast [hP.all, ha, hb, c]
      exact nx (by rw [hf, List.find?_cons_of_neg (by simp [c])])
  · rintro ρ s' ⟨rfl, o4, o5, o6, o7, hsub, hf, rfl⟩
    push_cast [hP.all]
    refine q _ rp1 _ x1 fr1 rfl ?_
    rw [hf]
    exact ⟨rfl, G1⟩
  · exact ⟨rfl, none, none, none, none, fun _ h => h, rfl, rfl⟩
def kU (p : Int × Nm × Int) : List K1 := [.int p.1, .str p.2.1, .int p.2.2]
def unU : List K1 → Int × Nm × Int
  | [.int i, .str t, .int k] => (i, t, k)
  | _ => (0, [], 0)
def uses (rc : Rc) (fl : Fl) : List (Int × Nm × Int) := rc.map (fun p => (p.2.1, p.1.1, p.1.2)) ++ fl.map fun p => (p.1, p.2.1, p.2.2)
omit hP in
theorem sortU {s : Sto} {l : List (Int × Nm × Int)} : biW .sortT [.lst (l.map (eT kU))] s = if l.length < 64 then some (.lst ((sortG kU unU l).map (eT kU)), s) else none :=
  sortT_G (fun _ => rfl) (fun _ _ => rfl) (fun _ => by simp [kU]) itemsOf_lst
theorem fix_wp {j : Nat} {s : Sto} {g rp fx : Nat} {many time m pr : Int} {h : Nm} {rc : Rc} {b : Bool} {Q : KM W} (G : Gt s g rp fx many time rc (fixL b)) (hl : rc.length ≤ 6) (hk : (rc.map (·.1)).Nodup)
    (hb0 : b = false → rc = [] ∧ h = [119, 101, 98] ∧ pr = 80)
    (q : ∀ s' rp' r, s'.nxt = s.nxt + 1 → (∀ k, k ≠ g → k ≠ fx → k < s.nxt → s'.get k = s.get k) → rp' = s.nxt → (if b = true then r = .error ⟨7, none⟩ else r = .ok .non) → Gt s' g rp' fx many time (alive time m rc) (fixL true) → Q r s') : Wp (atT (tower P (j + 2)) 0 9 [.ref g, .int 90, .str h, .int pr, .int m] none) s Q := by
  have ha := G.a; have hb := G.b; have hc := G.c
  have n1 := G.n1; have n2 := G.n2; have n3 := G.n3
  have g1 := G.g1; have g2 := G.g2; have g3 := G.g3
  rw [at0, wp_run hP.n9 rfl]
  simp only [f9, b9]
  rw [wxs_cons]
  dsimp? [hP.all, ha]
  refine forget_wp hP G hl hk ?_
  intro s1 x1 G1 fr1
  have ha := G1.a; have hb := G1.b; have hc := G1.c
  have m1 := G1.n1; have m2 := G1.n2; have m3 := G1.n3
  dsimp? []
  rw [wxs_cons]
  cases b with
  | true =>
    have e0 : lk (90 : Int) (fixL true) = some ([119, 101, 98], 80) := rfl
    dsimp? [hP.all, ha, hc, e0]
    rw [wxs_cons]
    dsimp? [hP.all]
    exact q s1 _ _ x1 (fun k z1 z2 z3 => fr1 k z1 z3) rfl rfl G1
  | false =>
    obtain ⟨rfl, rfl, rfl⟩ := hb0 rfl
    have hb : s1.get s.nxt = some (.dct false []) := hb
    have hc : s1.get fx = some (.dct false []) := hc
    have hc' : s1.get fx = some (.dct false (encD eI eF [])) := hc
    dsimp? [hP.all, ha, hc', lk]
    rw [wp_lock (n := s.nxt) (kvs := []) (by simp [lkN, insOf, getF, ha, hb])]
    dsimp? [hP.all, ha, m1, valsV, gather_nil, set_self hb]
    have e5 : inW s1 (.int 90) (.lst []) = some false := by simp [in_lst, dat_i, dataL]
    dsimp? [e5]
    rw [wxs_cons]
    dsimp? [hP.all, ha, hc', encD_len]
    refine q _ _ _ x1 (fun k z1 z2 z3 => by simp only [set_get, z2, if_false]; exact fr1 k z1 z3) rfl rfl ?_
    exact ⟨by simp [set_get, m2, ha], by simp [set_get, m3]; exact hb, by simp [set_get]; rfl, G1.g1, G1.g2, G1.g3, m1, m2, m3⟩
theorem inuse_wp {j : Nat} {s : Sto} {g rp fx : Nat} {many time m : Int} {rc : Rc} {b : Bool} {Q : KM W} (G : Gt s g rp fx many time rc (fixL b)) (hl : rc.length ≤ 6) (hk : (rc.map (·.1)).Nodup)
    (q : ∀ s', s'.nxt = s.nxt + 1 → (∀ k, k ≠ g → k < s.nxt → s'.get k = s.get k) → Gt s' g s.nxt fx many time (alive time m rc) (fixL b) → Q (.ok (.tup ((sortG kU unU (uses (alive time m rc) (fixL b))).map (eT kU)))) s') : Wp (atT (tower P (j + 2)) 0 13 [.ref g, .int m] none) s Q := by
  have ha := G.a; have hb := G.b; have hc := G.c
  have n1 := G.n1; have n2 := G.n2; have n3 := G.n3
  have g1 := G.g1; have g2 := G.g2; have g3 := G.g3
  rw [at0, wp_run hP.n13 rfl]
  simp only [f13, b13]
  rw [wxs_cons]
  dsimp? [hP.all, ha]
  refine forget_wp hP G hl hk ?_
  intro s1 x1 G1 fr1
  have ha := G1.a; have hb := G1.b; have hc := G1.c
  have m1 := G1.n1; have m2 := G1.n2; have m3 := G1.n3
  have hl1 : (alive time m rc).length ≤ 6 := Nat.le_trans (List.length_filter_le _ _) hl
  have q := q s1 x1 fr1 G1
  generalize alive time m rc = rc1 at q hb hl1 G1
  generalize s.nxt = rp1 at q G1 x1 fr1 ha hb m1 m2 m3
  have fl1 : (fixL b).length ≤ 1 := by cases b <;> simp [fixL]
  dsimp? []
  rw [wxs_cons]
  dsimp? []
  rw [wo_lock (n := rp1) (kvs := encD eSI eRp rc1) (by simp [lkN, insOf, getF, ha, hb])]
  dsimp? [hP.all, ha, m1]
  refine wp_comp1 (inj := fun p : (Nm × Int) × Rv => .tup [.tup [.str p.1.1, .int p.1.2], eRp p.2]) (emb := eT kU) (g := fun p => (p.2.1, p.1.1, p.1.2)) rc1 (rc1.map (fun p => (p.2.1, p.1.1, p.1.2))) rfl rfl ?_ (by simp [set_get, beqD_self]) ?_
  · rintro ⟨⟨x, i⟩, p, t, as, fs⟩ hx
    push_cast [eRp, eT, kU, k1W]
  dsimp? [set_self hb]
  refine ⟨le_line (by rw [List.length_map, List.length_map]; omega), ?_⟩
  rw [wxs_cons]
  dsimp? []
  rw [wp_lock (n := fx) (kvs := encD eI eF (fixL b)) (by simp [lkN, insOf, getF, ha, hc])]
  dsimp? [hP.all, ha, m2]
  refine wp_comp1 (inj := fun p : Int × (Nm × Int) => .tup [.int p.1, eF p.2]) (emb := eT kU) (g := fun p => (p.1, p.2.1, p.2.2)) (fixL b) ((fixL b).map fun p => (p.1, p.2.1, p.2.2)) rfl rfl ?_ (by simp [set_get, beqD_self]) ?_
  · rintro ⟨x, t, i⟩ hx
    push_cast [eF, eT, kU, k1W]
  have e5 : (rc1.map (fun p => (p.2.1, p.1.1, p.1.2))).map (eT kU) ++ ((fixL b).map fun p => (p.1, p.2.1, p.2.2)).map (eT kU) = (uses rc1 (fixL b)).map (eT kU) := by
    rw [← List.map_append]; rfl
  dsimp? [set_self hc, e5, sortU]
  refine ⟨le_line (by simp only [List.length_map]; omega), le_line (by simp only [List.length_map]; omega), by simp only [uses, List.length_append, List.length_map]; omega, q⟩
end L

end

section
set_option Elab.async false
set_option linter.all false
set_option maxRecDepth 100000
set_option maxHeartbeats 4000000
namespace L
open Mn
local macro_rules | `(tactic| push_cast [$as,*]) => `(tactic| simp only [↓wv_cst, ↓wv_var, ↓wv_bin, ↓wv_neg, ↓wv_cmp, ↓wv_chn, ↓wv_isN, ↓wv_and, ↓wv_or, ↓wv_not, ↓wv_ite, ↓wv_tup, ↓wv_lst, ↓wv_dct0, ↓wv_fld, ↓wv_idx, ↓wv_slc, ↓wv_call, ↓wv_new, ↓wv_meth, ↓wv_bi, ↓wv_bm, ↓wv_comp, ↓wc_compG, ↓wv_lkd, ↓wv_inV, ↓wv_litems, ↓wv_dget, ↓wv_lam, ↓wv_thk, ↓ws_nil, ↓ws_cons, ↓wt_nil, ↓wt_cons, ↓wq_no, ↓wq_so, ↓wi_seq, ↓wi_rng1, ↓wi_rng2, ↓wi_enum, ↓wi_keys, ↓wi_vals, ↓wi_items, ↓wg_var, ↓wg_tup, ↓wg_sub, ↓wg_fld, ↓wgs_nil, ↓wgs_cons, ↓wx_expr, ↓wx_asg, ↓wx_aug, ↓wx_augF, ↓wx_augS, ↓wx_ret, ↓wx_ret0, ↓wx_iff, ↓wx_forr, ↓wx_forB, ↓wx_whil, ↓wx_whilT, ↓wx_whilB, ↓wx_tryy, ↓wx_del, ↓wo_delM, ↓wx_rais, ↓wx_brk, ↓wx_cnt, ↓wx_pass, ↓wx_lkd, ↓wxs_nil, ↓wxs_cons, ↓wp_ret, ↓wp_bind, ↓wp_of, ↓wp_ofs, ↓wp_op, ↓wp_calm, ↓wp_get, ↓wp_no, ↓wo_toO, ↓wo_seq, ↓wo_end, ↓wp_make, ↓bindK_ok, ↓bindK_er, ↓toOK_ok, ↓toOK_er, ↓seqK_nx, ↓seqK_rt, ↓seqK_bk, ↓seqK_ct, ↓seqK_ex, ↓calmK_ok, ↓retK_nx, ↓retK_rt, ↓retK_rtf, ↓retK_ex, ↓makeK_non, ↓makeK_nonf, ↓makeK_er, ↓tryK_ex, ↓tryK_nx, ↓tryK_rt, ↓tryK_bk, ↓tryK_ct, ↓ifK_t, ↓ifK_f, ↓turnK_nx, ↓turnK_ct, ↓turnK_bk, ↓turnK_rt, ↓turnK_ex, ↓whilK_nx, ↓whilK_ct, ↓whilK_bk, ↓whilK_rt, ↓whilK_ex, w1_some, w1_of, w1_ret, w1_ite, kcW, setE, wipeE, tgSlots, tgsSlots, List.getElem?_cons_zero, List.getElem?_cons_succ, Option.join_some, List.set_cons_zero, List.set_cons_succ, List.append_eq, b2_addI, b2_subI, b2_mulI, b2_fdivI, b2_mdI, b2_powI, b2_addT, b2_addS, b2_addL, c2_eq, c2_ne, c2_lt, c2_le, c2_gt, c2_ge, c2_in, c2_nin, Option.map_some, Option.bind_some, eqc_ii, eqc_ss, eqc_ints, eqc_intsT, eqc_ints0, eqc_intsT0, eqc_nilL, eqc_nilT, eqc_bb, eqc_is, eqc_si, eqc_ns, eqc_sn, eqc_nn, eqc_ni, eqc_in, List.all_cons, List.all_nil, tru_b, tru_i, mtru, biW_int, biW_intb, biW_abs, biW_min2, biW_max2, List.map_cons, List.map_nil, List.length_cons, List.length_nil, List.cons_append, List.nil_append, List.replicate_succ, List.replicate_zero, decide_true, decide_false, decide_eq_true_eq, if_true, if_false, ite_true, ite_false, Bool.not_true, Bool.not_false, reduceIte, and_true, true_and, false_and, and_false, ne_eq, not_true_eq_false, not_false_eq_true, Nat.zero_add, Bool.false_eq_true, reduceCtorEq, decide_not, Nat.sub_zero, eq_self, and_self, valsV_enc, keysV_enc, itemsV_enc, Nat.add_one_sub_one, smallI_eq, smallR_eq, seqOf, lstOf, forall_const, Bool.and_true, Bool.true_and, Bool.or_true, Bool.true_or, Bool.or_false, Bool.false_or, Bool.or_eq_true, Bool.and_eq_true, seval, idx_ref, idxR_lst, idxR_dct, idx_lst, idx_tup, idx_str, idx_dct, atI_0, atI_1, atI_2, atI_3, fld_ref, fldR_ins, getF_cons, getF_nil, putF_cons, putF_nil, stF_ref, stFR_ins, meth_ref, methR_ins, stS_ref, stSR_lst, stSR_dct, toKy_i, toKy_s, toKy_si, toKy_ss, toKy_ii, in_ref, inR_dct, inV_ref, in_ints, in_intsT, del_ref, dctOf_ref, dctR_dct, get2_eq, get2R_some, Option.getD_some, Option.getD_none, delR_S, delR_I, wd_some, leLine_t, ltLine_t, vw_ref, vwR_dct, unlkR, lockK_r, lockO_rt, lockO_nx, slc_lst, slc_tup, slc_str, cutL_1, len_lst, len_tup, len_str, tuple_lst, tuple_tup, list_tup, list_lst, mkL_f, mkL_t, dict_lst, listd_eq, listdR_some, src_lst, src_tup, src_str, src_ref, set_get, new_get, set_nxt, new_nxt, set_set, getK_S, getK_I, getK_SI, getK_SS, kyOk_S, kyOk_I, kyOk_SI, kyOk_SS, delK_S, delK_I, kyW_S, kyW_I, kyW_SI, kyW_SS, Option.isSome_map, Option.isSome_none, Option.isSome_some, Option.map_none, Option.bind_none, inVR_enc, List.append_nil, $as,*])
local macro_rules | `(tactic| simp? [$as,*]) => `(tactic| simp only [↓wv_cst, ↓wv_var, ↓wv_bin, ↓wv_neg, ↓wv_cmp, ↓wv_chn, ↓wv_isN, ↓wv_and, ↓wv_or, ↓wv_not, ↓wv_ite, ↓wv_tup, ↓wv_lst, ↓wv_dct0, ↓wv_fld, ↓wv_idx, ↓wv_slc, ↓wv_call, ↓wv_new, ↓wv_meth, ↓wv_bi, ↓wv_bm, ↓wv_comp, ↓wc_compG, ↓wv_lkd, ↓wv_inV, ↓wv_litems, ↓wv_dget, ↓wv_lam, ↓wv_thk, ↓ws_nil, ↓ws_cons, ↓wt_nil, ↓wt_cons, ↓wq_no, ↓wq_so, ↓wi_seq, ↓wi_rng1, ↓wi_rng2, ↓wi_enum, ↓wi_keys, ↓wi_vals, ↓wi_items, ↓wg_var, ↓wg_tup, ↓wg_sub, ↓wg_fld, ↓wgs_nil, ↓wgs_cons, ↓wx_expr, ↓wx_asg, ↓wx_aug, ↓wx_augF, ↓wx_augS, ↓wx_ret, ↓wx_ret0, ↓wx_iff, ↓wx_forr, ↓wx_forB, ↓wx_whil, ↓wx_whilT, ↓wx_whilB, ↓wx_tryy, ↓wx_del, ↓wo_delM, ↓wx_rais, ↓wx_brk, ↓wx_cnt, ↓wx_pass, ↓wx_lkd, ↓wxs_nil, ↓wxs_cons, ↓wp_ret, ↓wp_bind, ↓wp_of, ↓wp_ofs, ↓wp_op, ↓wp_calm, ↓wp_get, ↓wp_no, ↓wo_toO, ↓wo_seq, ↓wo_end, ↓wp_make, ↓bindK_ok, ↓bindK_er, ↓toOK_ok, ↓toOK_er, ↓seqK_rt, ↓seqK_bk, ↓seqK_ct, ↓seqK_ex, ↓calmK_ok, ↓retK_nx, ↓retK_rt, ↓retK_rtf, ↓retK_ex, ↓makeK_non, ↓makeK_nonf, ↓makeK_er, ↓tryK_ex, ↓tryK_nx, ↓tryK_rt, ↓tryK_bk, ↓tryK_ct, ↓ifK_t, ↓ifK_f, ↓turnK_nx, ↓turnK_ct, ↓turnK_bk, ↓turnK_rt, ↓turnK_ex, ↓whilK_nx, ↓whilK_ct, ↓whilK_bk, ↓whilK_rt, ↓whilK_ex, w1_some, w1_of, w1_ret, w1_ite, kcW, setE, wipeE, tgSlots, tgsSlots, List.getElem?_cons_zero, List.getElem?_cons_succ, Option.join_some, List.set_cons_zero, List.set_cons_succ, List.append_eq, b2_addI, b2_subI, b2_mulI, b2_fdivI, b2_mdI, b2_powI, b2_addT, b2_addS, b2_addL, c2_eq, c2_ne, c2_lt, c2_le, c2_gt, c2_ge, c2_in, c2_nin, Option.map_some, Option.bind_some, eqc_ii, eqc_ss, eqc_ints, eqc_intsT, eqc_ints0, eqc_intsT0, eqc_nilL, eqc_nilT, eqc_bb, eqc_is, eqc_si, eqc_ns, eqc_sn, eqc_nn, eqc_ni, eqc_in, List.all_cons, List.all_nil, tru_b, tru_i, mtru, biW_int, biW_intb, biW_abs, biW_min2, biW_max2, List.map_cons, List.map_nil, List.length_cons, List.length_nil, List.cons_append, List.nil_append, List.replicate_succ, List.replicate_zero, decide_true, decide_false, decide_eq_true_eq, if_true, if_false, ite_true, ite_false, Bool.not_true, Bool.not_false, reduceIte, and_true, true_and, false_and, and_false, ne_eq, not_true_eq_false, not_false_eq_true, Nat.zero_add, Bool.false_eq_true, reduceCtorEq, decide_not, Nat.sub_zero, eq_self, and_self, valsV_enc, keysV_enc, itemsV_enc, Nat.add_one_sub_one, smallI_eq, smallR_eq, seqOf, lstOf, forall_const, Bool.and_true, Bool.true_and, Bool.or_true, Bool.true_or, Bool.or_false, Bool.false_or, Bool.or_eq_true, Bool.and_eq_true, seval, idx_ref, idxR_lst, idxR_dct, idx_lst, idx_tup, idx_str, idx_dct, atI_0, atI_1, atI_2, atI_3, fld_ref, fldR_ins, getF_cons, getF_nil, putF_cons, putF_nil, stF_ref, stFR_ins, meth_ref, methR_ins, stS_ref, stSR_lst, stSR_dct, toKy_i, toKy_s, toKy_si, toKy_ss, toKy_ii, in_ref, inR_dct, inV_ref, in_ints, in_intsT, del_ref, dctOf_ref, dctR_dct, get2_eq, get2R_some, Option.getD_some, Option.getD_none, delR_S, delR_I, wd_some, leLine_t, ltLine_t, vw_ref, vwR_dct, unlkR, lockK_r, lockO_rt, lockO_nx, slc_lst, slc_tup, slc_str, cutL_1, len_lst, len_tup, len_str, tuple_lst, tuple_tup, list_tup, list_lst, mkL_f, mkL_t, dict_lst, listd_eq, listdR_some, src_lst, src_tup, src_str, src_ref, set_get, new_get, set_nxt, new_nxt, set_set, getK_S, getK_I, getK_SI, getK_SS, kyOk_S, kyOk_I, kyOk_SI, kyOk_SS, delK_S, delK_I, kyW_S, kyW_I, kyW_SI, kyW_SS, Option.isSome_map, Option.isSome_none, Option.isSome_some, Option.map_none, Option.bind_none, inVR_enc, List.append_nil, $as,*])
local macro_rules | `(tactic| dsimp? [$as,*]) => `(tactic| simp only [↓wv_cst, ↓wv_var, ↓wv_bin, ↓wv_neg, ↓wv_cmp, ↓wv_chn, ↓wv_isN, ↓wv_and, ↓wv_or, ↓wv_not, ↓wv_ite, ↓wv_tup, ↓wv_lst, ↓wv_dct0, ↓wv_fld, ↓wv_idx, ↓wv_slc, ↓wv_call, ↓wv_new, ↓wv_meth, ↓wv_bi, ↓wv_bm, ↓wv_comp, ↓wc_compG, ↓wv_lkd, ↓wv_inV, ↓wv_litems, ↓wv_dget, ↓wv_lam, ↓wv_thk, ↓ws_nil, ↓ws_cons, ↓wt_nil, ↓wt_cons, ↓wq_no, ↓wq_so, ↓wi_seq, ↓wi_rng1, ↓wi_rng2, ↓wi_enum, ↓wi_keys, ↓wi_vals, ↓wi_items, ↓wg_var, ↓wg_tup, ↓wg_sub, ↓wg_fld, ↓wgs_nil, ↓wgs_cons, ↓wx_expr, ↓wx_asg, ↓wx_aug, ↓wx_augF, ↓wx_augS, ↓wx_ret, ↓wx_ret0, ↓wx_iff, ↓wx_forr, ↓wx_forB, ↓wx_whil, ↓wx_whilT, ↓wx_whilB, ↓wx_tryy, ↓wx_del, ↓wo_delM, ↓wx_rais, ↓wx_brk, ↓wx_cnt, ↓wx_pass, ↓wx_lkd, ↓wxs_nil, ↓wp_ret, ↓wp_bind, ↓wp_of, ↓wp_ofs, ↓wp_op, ↓wp_calm, ↓wp_get, ↓wp_no, ↓wo_toO, ↓wo_seq, ↓wo_end, ↓wp_make, ↓bindK_ok, ↓bindK_er, ↓toOK_ok, ↓toOK_er, ↓seqK_nx, ↓seqK_rt, ↓seqK_bk, ↓seqK_ct, ↓seqK_ex, ↓calmK_ok, ↓retK_nx, ↓retK_rt, ↓retK_rtf, ↓retK_ex, ↓makeK_non, ↓makeK_nonf, ↓makeK_er, ↓tryK_ex, ↓tryK_nx, ↓tryK_rt, ↓tryK_bk, ↓tryK_ct, ↓ifK_t, ↓ifK_f, ↓turnK_nx, ↓turnK_ct, ↓turnK_bk, ↓turnK_rt, ↓turnK_ex, ↓whilK_nx, ↓whilK_ct, ↓whilK_bk, ↓whilK_rt, ↓whilK_ex, w1_some, w1_of, w1_ret, w1_ite, kcW, setE, wipeE, tgSlots, tgsSlots, List.getElem?_cons_zero, List.getElem?_cons_succ, Option.join_some, List.set_cons_zero, List.set_cons_succ, List.append_eq, b2_addI, b2_subI, b2_mulI, b2_fdivI, b2_mdI, b2_powI, b2_addT, b2_addS, b2_addL, c2_eq, c2_ne, c2_lt, c2_le, c2_gt, c2_ge, c2_in, c2_nin, Option.map_some, Option.bind_some, eqc_ii, eqc_ss, eqc_ints, eqc_intsT, eqc_ints0, eqc_intsT0, eqc_nilL, eqc_nilT, eqc_bb, eqc_is, eqc_si, eqc_ns, eqc_sn, eqc_nn, eqc_ni, eqc_in, List.all_cons, List.all_nil, tru_b, tru_i, mtru, biW_int, biW_intb, biW_abs, biW_min2, biW_max2, List.map_cons, List.map_nil, List.length_cons, List.length_nil, List.cons_append, List.nil_append, List.replicate_succ, List.replicate_zero, decide_true, decide_false, decide_eq_true_eq, if_true, if_false, ite_true, ite_false, Bool.not_true, Bool.not_false, reduceIte, and_true, true_and, false_and, and_false, ne_eq, not_true_eq_false, not_false_eq_true, Nat.zero_add, Bool.false_eq_true, reduceCtorEq, decide_not, Nat.sub_zero, eq_self, and_self, valsV_enc, keysV_enc, itemsV_enc, Nat.add_one_sub_one, smallI_eq, smallR_eq, seqOf, lstOf, forall_const, Bool.and_true, Bool.true_and, Bool.or_true, Bool.true_or, Bool.or_false, Bool.false_or, Bool.or_eq_true, Bool.and_eq_true, seval, idx_ref, idxR_lst, idxR_dct, idx_lst, idx_tup, idx_str, idx_dct, atI_0, atI_1, atI_2, atI_3, fld_ref, fldR_ins, getF_cons, getF_nil, putF_cons, putF_nil, stF_ref, stFR_ins, meth_ref, methR_ins, stS_ref, stSR_lst, stSR_dct, toKy_i, toKy_s, toKy_si, toKy_ss, toKy_ii, in_ref, inR_dct, inV_ref, in_ints, in_intsT, del_ref, dctOf_ref, dctR_dct, get2_eq, get2R_some, Option.getD_some, Option.getD_none, delR_S, delR_I, wd_some, leLine_t, ltLine_t, vw_ref, vwR_dct, unlkR, lockK_r, lockO_rt, lockO_nx, slc_lst, slc_tup, slc_str, cutL_1, len_lst, len_tup, len_str, tuple_lst, tuple_tup, list_tup, list_lst, mkL_f, mkL_t, dict_lst, listd_eq, listdR_some, src_lst, src_tup, src_str, src_ref, set_get, new_get, set_nxt, new_nxt, set_set, getK_S, getK_I, getK_SI, getK_SS, kyOk_S, kyOk_I, kyOk_SI, kyOk_SS, delK_S, delK_I, kyW_S, kyW_I, kyW_SI, kyW_SS, Option.isSome_map, Option.isSome_none, Option.isSome_some, Option.map_none, Option.bind_none, inVR_enc, List.append_nil, $as,*])
variable {P : Pg} (hP : PgF P)
def gk : List (Nm × Int) := [([97], 1), ([97], 2), ([97], 3), ([98], 1), ([98], 2), ([98], 3)]
def kK (p : Nm × Int) : List K1 := [.str p.1, .int p.2]
def unK : List K1 → Nm × Int
  | [.str t, .int k] => (t, k)
  | _ => ([], 0)
/-- the rows of the gate, as the law keeps them too -/
structure RcI (many : Int) (c : Nat) (rc : Rc) : Prop where
  kn : (rc.map (·.1)).Nodup
  ks : ∀ x ∈ rc.map (·.1), x ∈ gk
  pr : ∀ p ∈ rc, 50 ≤ p.2.1 ∧ p.2.1 < 50 + many
  pu : ∀ p ∈ rc, ∀ q ∈ rc, p.2.1 = q.2.1 → p = q
  af : ∀ p ∈ rc, ∀ x, x ∈ p.2.2.2.1 ↔ x ∈ p.2.2.2.2
  ax : ∀ p ∈ rc, ∀ x ∈ p.2.2.2.1, x = [120] ∨ x = [121]
  al : ∀ p ∈ rc, p.2.2.2.1.length ≤ c
  fl : ∀ p ∈ rc, p.2.2.2.2.length ≤ c
theorem RcI.l6 {many : Int} {c : Nat} {rc : Rc} (I : RcI many c rc) : rc.length ≤ 6 := by
  have := len_sub I.kn I.ks
  simpa [gk] using this
theorem RcI.alive {many : Int} {c : Nat} {rc : Rc} (I : RcI many c rc) (time m : Int) : RcI many c (alive time m rc) := by
  have h : ∀ p ∈ L.alive time m rc, p ∈ rc := fun p hp => (List.mem_filter.mp hp).1
  refine ⟨nodup_filter I.kn, fun x hx => ?_, fun p hp => I.pr p (h p hp), fun p hp q hq => I.pu p (h p hp) q (h q hq), fun p hp => I.af p (h p hp), fun p hp => I.ax p (h p hp), fun p hp => I.al p (h p hp), fun p hp => I.fl p (h p hp)⟩
  obtain ⟨p, hp, rfl⟩ := List.mem_map.mp hx
  exact I.ks _ (List.mem_map.mpr ⟨p, h p hp, rfl⟩)
theorem RcI.ok {many : Int} {c : Nat} {rc : Rc} (I : RcI many c rc) : ∀ p ∈ rc, ∀ x ∈ p.2.2.2.1, x.all (fun c => decide (c < 1114112)) = true := fun p hp x hx => by
  rcases I.ax p hp x hx with rfl | rfl <;> decide
theorem RcI.pt {many : Int} {c : Nat} {rc : Rc} (I : RcI many c rc) {k : Nm × Int} (hk : k ∈ gk) {p m : Int} {as fs : List Nm} (hp : 50 ≤ p ∧ p < 50 + many) (hu : ∀ q ∈ rc, q.1 ≠ k → q.2.1 ≠ p) (haf : ∀ x, x ∈ as ↔ x ∈ fs) (hax : ∀ x ∈ as, x = [120] ∨ x = [121]) (hal : as.length ≤ c + 1) (hfl : fs.length ≤ c + 1) : RcI many (c + 1) (Mn.pt k (p, m, as, fs) rc) := by
  refine ⟨nodup_pt I.kn, fun x hx => ?_, fun q hq => ?_, fun q hq r hr e => ?_, fun q hq => ?_, fun q hq => ?_, fun q hq => ?_, fun q hq => ?_⟩
  · rw [keys_pt] at hx
    split at hx
    · exact I.ks x hx
    · rcases List.mem_append.mp hx with h | h
      · exact I.ks x h
      · rw [List.mem_singleton.mp h]; exact hk
  · rcases mem_pt hq with rfl | ⟨h, _⟩
    · exact hp
    · exact I.pr q h
  · rcases mem_pt hq with rfl | ⟨h1, n1⟩
    · rcases mem_pt hr with rfl | ⟨h2, n2⟩
      · rfl
      · exact (hu r h2 n2 e.symm).elim
    · rcases mem_pt hr with rfl | ⟨h2, n2⟩
      · exact (hu q h1 n1 e).elim
      · exact I.pu q h1 r h2 e
  · rcases mem_pt hq with rfl | ⟨h, _⟩
    · exact haf
    · exact I.af q h
  · rcases mem_pt hq with rfl | ⟨h, _⟩
    · exact hax
    · exact I.ax q h
  · rcases mem_pt hq with rfl | ⟨h, _⟩
    · exact hal
    · exact Nat.le_succ_of_le (I.al q h)
  · rcases mem_pt hq with rfl | ⟨h, _⟩
    · exact hfl
    · exact Nat.le_succ_of_le (I.fl q h)
theorem RcI.mono {many : Int} {c d : Nat} {rc : Rc} (I : RcI many c rc) (h : c ≤ d) : RcI many d rc := ⟨I.kn, I.ks, I.pr, I.pu, I.af, I.ax, fun p hp => Nat.le_trans (I.al p hp) h, fun p hp => Nat.le_trans (I.fl p hp) h⟩
/-- what stands in the gate's loop -/
structure RI (s : Sto) (many time : Int) (l : Lt) (h : Hd) (g rp fx rl : Nat) (c : Nat) (rc rcl : Rc) (b : Bool) : Prop where
  G : Gt s g rp fx many time rc (fixL b)
  L : Ln s many time l h
  d : ∃ a b k, s.get 0 = some (.lst [.int a, .int b, .int k])
  r : s.get rl = some (.dct false (encD eSI eRl rcl))
  I : RcI many c rc
  g6 : 6 ≤ g
  p6 : 6 ≤ rp
  f6 : 6 ≤ fx
  l6 : 6 ≤ rl
  n1 : rl ≠ g
  n2 : rl ≠ rp
  n3 : rl ≠ fx
  ln : rl < s.nxt
theorem RI.set0 {s : Sto} {many time : Int} {l : Lt} {h : Hd} {g rp fx rl c : Nat} {rc rcl : Rc} {b : Bool} (I : RI s many time l h g rp fx rl c rc rcl b) (x y z : Int) : RI (s.set 0 (.lst [.int x, .int y, .int z])) many time l h g rp fx rl c rc rcl b := by
  have g6 := I.g6; have p6 := I.p6; have f6 := I.f6; have l6 := I.l6
  have e1 : g ≠ 0 := by omega
  have e2 : rp ≠ 0 := by omega
  have e3 : fx ≠ 0 := by omega
  have e4 : rl ≠ 0 := by omega
  exact ⟨⟨by simp [set_get, e1, I.G.a], by simp [set_get, e2, I.G.b], by simp [set_get, e3, I.G.c], I.G.g1, I.G.g2, I.G.g3, I.G.n1, I.G.n2, I.G.n3⟩, ⟨by simp [set_get, I.L.a], by simp [set_get, I.L.b], by simp [set_get, I.L.c]⟩, ⟨x, y, z, by simp [set_get]⟩, by simp [set_get, e4, I.r], I.I, g6, p6, f6, l6, I.n1, I.n2, I.n3, I.ln⟩
/-- the gate changes, the rest stands -/
theorem RI.gate {s s' : Sto} {many time : Int} {l : Lt} {h : Hd} {g rp fx rl c c' rp' : Nat} {rc rcl rc' : Rc} {b b' : Bool} (I : RI s many time l h g rp fx rl c rc rcl b) (x : s'.nxt = s.nxt + 1) (fr : ∀ k, k ≠ g → k ≠ fx → k < s.nxt → s'.get k = s.get k) (hp : rp' = s.nxt) (G : Gt s' g rp' fx many time rc' (fixL b')) (hI : RcI many c' rc') : RI s' many time l h g rp' fx rl c' rc' rcl b' := by
  have g6 := I.g6; have p6 := I.p6; have f6 := I.f6; have l6 := I.l6; have g1 := I.G.g1; have ln := I.ln; have n1 := I.n1; have n3 := I.n3
  obtain ⟨a, b, k, hd⟩ := I.d
  exact ⟨G, ⟨(fr 1 (by omega) (by omega) (by omega)).trans I.L.a, (fr 2 (by omega) (by omega) (by omega)).trans I.L.b, (fr 3 (by omega) (by omega) (by omega)).trans I.L.c⟩, ⟨a, b, k, (fr 0 (by omega) (by omega) (by omega)).trans hd⟩, (fr rl n1 n3 ln).trans I.r, hI, g6, by omega, f6, l6, n1, by omega, n3, by omega⟩
/-- the law's rows change -/
theorem RI.rows {s : Sto} {many time : Int} {l : Lt} {h : Hd} {g rp fx rl c : Nat} {rc rcl rcl' : Rc} {b : Bool} (I : RI s many time l h g rp fx rl c rc rcl b) : RI (s.set rl (.dct false (encD eSI eRl rcl'))) many time l h g rp fx rl c rc rcl' b := by
  have g6 := I.g6; have p6 := I.p6; have f6 := I.f6; have l6 := I.l6; have n1 := I.n1; have n2 := I.n2; have n3 := I.n3
  obtain ⟨x, y, z, hd⟩ := I.d
  have e0 : ¬ 0 = rl := by omega
  have e1 : ¬ 1 = rl := by omega
  have e2 : ¬ 2 = rl := by omega
  have e3 : ¬ 3 = rl := by omega
  exact ⟨⟨by simp [set_get, Ne.symm n1, I.G.a], by simp [set_get, Ne.symm n2, I.G.b], by simp [set_get, Ne.symm n3, I.G.c], I.G.g1, I.G.g2, I.G.g3, I.G.n1, I.G.n2, I.G.n3⟩, ⟨by simp [set_get, e1, I.L.a], by simp [set_get, e2, I.L.b], by simp [set_get, e3, I.L.c]⟩, ⟨x, y, z, by simp [set_get, e0, hd]⟩, by simp [set_get], I.I, g6, p6, f6, l6, n1, n2, n3, I.ln⟩
theorem RI.newRows {s : Sto} {many time : Int} {l : Lt} {h : Hd} {g rp fx rl c : Nat} {rc rcl rcl' : Rc} {b : Bool} (I : RI s many time l h g rp fx rl c rc rcl b) : RI (s.new (.dct false (encD eSI eRl rcl'))) many time l h g rp fx s.nxt c rc rcl' b := by
  have g6 := I.g6; have p6 := I.p6; have f6 := I.f6; have l6 := I.l6; have n1 := I.n1; have n2 := I.n2; have n3 := I.n3; have g1 := I.G.g1; have g2 := I.G.g2; have g3 := I.G.g3
  obtain ⟨x, y, z, hd⟩ := I.d
  have e0 : ¬ 0 = s.nxt := by omega
  have e1 : ¬ 1 = s.nxt := by omega
  have e2 : ¬ 2 = s.nxt := by omega
  have e3 : ¬ 3 = s.nxt := by omega
  have e4 : ¬ g = s.nxt := by omega
  have e5 : ¬ rp = s.nxt := by omega
  have e6 : ¬ fx = s.nxt := by omega
  exact ⟨⟨by simp [new_get, e4, I.G.a], by simp [new_get, e5, I.G.b], by simp [new_get, e6, I.G.c], by simp only [new_nxt]; omega, by simp only [new_nxt]; omega, by simp only [new_nxt]; omega, I.G.n1, I.G.n2, I.G.n3⟩, ⟨by simp [new_get, e1, I.L.a], by simp [new_get, e2, I.L.b], by simp [new_get, e3, I.L.c]⟩, ⟨x, y, z, by simp [new_get, e0, hd]⟩, by simp [new_get], I.I, g6, p6, f6, by omega, Ne.symm e4, Ne.symm e5, Ne.symm e6, by simp only [new_nxt]; omega⟩
theorem putRl {t : Nm} {i p u : Int} (as : List Nm) {fs : List Nm} {l : Rc} : putK (.many [.str t, .int i]) (.tup [.int p, .int u, .lst (fs.map .str)]) (encD eSI eRl l) = encD eSI eRl (Mn.pt (t, i) (p, u, as, fs) l) := putK_SI (ve := eRl) (p, u, as, fs)
end L

end

section
set_option Elab.async false
set_option linter.all false
set_option maxRecDepth 100000
set_option maxHeartbeats 4000000
namespace L
open Mn
local macro_rules | `(tactic| push_cast [$as,*]) => `(tactic| simp only [↓wv_cst, ↓wv_var, ↓wv_bin, ↓wv_neg, ↓wv_cmp, ↓wv_chn, ↓wv_isN, ↓wv_and, ↓wv_or, ↓wv_not, ↓wv_ite, ↓wv_tup, ↓wv_lst, ↓wv_dct0, ↓wv_fld, ↓wv_idx, ↓wv_slc, ↓wv_call, ↓wv_new, ↓wv_meth, ↓wv_bi, ↓wv_bm, ↓wv_comp, ↓wc_compG, ↓wv_lkd, ↓wv_inV, ↓wv_litems, ↓wv_dget, ↓wv_lam, ↓wv_thk, ↓ws_nil, ↓ws_cons, ↓wt_nil, ↓wt_cons, ↓wq_no, ↓wq_so, ↓wi_seq, ↓wi_rng1, ↓wi_rng2, ↓wi_enum, ↓wi_keys, ↓wi_vals, ↓wi_items, ↓wg_var, ↓wg_tup, ↓wg_sub, ↓wg_fld, ↓wgs_nil, ↓wgs_cons, ↓wx_expr, ↓wx_asg, ↓wx_aug, ↓wx_augF, ↓wx_augS, ↓wx_ret, ↓wx_ret0, ↓wx_iff, ↓wx_forr, ↓wx_forB, ↓wx_whil, ↓wx_whilT, ↓wx_whilB, ↓wx_tryy, ↓wx_del, ↓wo_delM, ↓wx_rais, ↓wx_brk, ↓wx_cnt, ↓wx_pass, ↓wx_lkd, ↓wxs_nil, ↓wxs_cons, ↓wp_ret, ↓wp_bind, ↓wp_of, ↓wp_ofs, ↓wp_op, ↓wp_calm, ↓wp_get, ↓wp_no, ↓wo_toO, ↓wo_seq, ↓wo_end, ↓wp_make, ↓bindK_ok, ↓bindK_er, ↓toOK_ok, ↓toOK_er, ↓seqK_nx, ↓seqK_rt, ↓seqK_bk, ↓seqK_ct, ↓seqK_ex, ↓calmK_ok, ↓retK_nx, ↓retK_rt, ↓retK_rtf, ↓retK_ex, ↓makeK_non, ↓makeK_nonf, ↓makeK_er, ↓tryK_ex, ↓tryK_nx, ↓tryK_rt, ↓tryK_bk, ↓tryK_ct, ↓ifK_t, ↓ifK_f, ↓turnK_nx, ↓turnK_ct, ↓turnK_bk, ↓turnK_rt, ↓turnK_ex, ↓whilK_nx, ↓whilK_ct, ↓whilK_bk, ↓whilK_rt, ↓whilK_ex, w1_some, w1_of, w1_ret, w1_ite, kcW, setE, wipeE, tgSlots, tgsSlots, List.getElem?_cons_zero, List.getElem?_cons_succ, Option.join_some, List.set_cons_zero, List.set_cons_succ, List.append_eq, b2_addI, b2_subI, b2_mulI, b2_fdivI, b2_mdI, b2_powI, b2_addT, b2_addS, b2_addL, c2_eq, c2_ne, c2_lt, c2_le, c2_gt, c2_ge, c2_in, c2_nin, Option.map_some, Option.bind_some, eqc_ii, eqc_ss, eqc_ints, eqc_intsT, eqc_ints0, eqc_intsT0, eqc_nilL, eqc_nilT, eqc_bb, eqc_is, eqc_si, eqc_ns, eqc_sn, eqc_nn, eqc_ni, eqc_in, List.all_cons, List.all_nil, tru_b, tru_i, mtru, biW_int, biW_intb, biW_abs, biW_min2, biW_max2, List.map_cons, List.map_nil, List.length_cons, List.length_nil, List.cons_append, List.nil_append, List.replicate_succ, List.replicate_zero, decide_true, decide_false, decide_eq_true_eq, if_true, if_false, ite_true, ite_false, Bool.not_true, Bool.not_false, reduceIte, and_true, true_and, false_and, and_false, ne_eq, not_true_eq_false, not_false_eq_true, Nat.zero_add, Bool.false_eq_true, reduceCtorEq, decide_not, Nat.sub_zero, eq_self, and_self, valsV_enc, keysV_enc, itemsV_enc, Nat.add_one_sub_one, smallI_eq, smallR_eq, seqOf, lstOf, forall_const, Bool.and_true, Bool.true_and, Bool.or_true, Bool.true_or, Bool.or_false, Bool.false_or, Bool.or_eq_true, Bool.and_eq_true, seval, idx_ref, idxR_lst, idxR_dct, idx_lst, idx_tup, idx_str, idx_dct, atI_0, atI_1, atI_2, atI_3, fld_ref, fldR_ins, getF_cons, getF_nil, putF_cons, putF_nil, stF_ref, stFR_ins, meth_ref, methR_ins, stS_ref, stSR_lst, stSR_dct, toKy_i, toKy_s, toKy_si, toKy_ss, toKy_ii, in_ref, inR_dct, inV_ref, in_ints, in_intsT, del_ref, dctOf_ref, dctR_dct, get2_eq, get2R_some, Option.getD_some, Option.getD_none, delR_S, delR_I, wd_some, leLine_t, ltLine_t, vw_ref, vwR_dct, unlkR, lockK_r, lockO_rt, lockO_nx, slc_lst, slc_tup, slc_str, cutL_1, len_lst, len_tup, len_str, tuple_lst, tuple_tup, list_tup, list_lst, mkL_f, mkL_t, dict_lst, listd_eq, listdR_some, src_lst, src_tup, src_str, src_ref, set_get, new_get, set_nxt, new_nxt, set_set, getK_S, getK_I, getK_SI, getK_SS, kyOk_S, kyOk_I, kyOk_SI, kyOk_SS, delK_S, delK_I, kyW_S, kyW_I, kyW_SI, kyW_SS, Option.isSome_map, Option.isSome_none, Option.isSome_some, Option.map_none, Option.bind_none, inVR_enc, List.append_nil, $as,*])
local macro_rules | `(tactic| simp? [$as,*]) => `(tactic| simp only [↓wv_cst, ↓wv_var, ↓wv_bin, ↓wv_neg, ↓wv_cmp, ↓wv_chn, ↓wv_isN, ↓wv_and, ↓wv_or, ↓wv_not, ↓wv_ite, ↓wv_tup, ↓wv_lst, ↓wv_dct0, ↓wv_fld, ↓wv_idx, ↓wv_slc, ↓wv_call, ↓wv_new, ↓wv_meth, ↓wv_bi, ↓wv_bm, ↓wv_comp, ↓wc_compG, ↓wv_lkd, ↓wv_inV, ↓wv_litems, ↓wv_dget, ↓wv_lam, ↓wv_thk, ↓ws_nil, ↓ws_cons, ↓wt_nil, ↓wt_cons, ↓wq_no, ↓wq_so, ↓wi_seq, ↓wi_rng1, ↓wi_rng2, ↓wi_enum, ↓wi_keys, ↓wi_vals, ↓wi_items, ↓wg_var, ↓wg_tup, ↓wg_sub, ↓wg_fld, ↓wgs_nil, ↓wgs_cons, ↓wx_expr, ↓wx_asg, ↓wx_aug, ↓wx_augF, ↓wx_augS, ↓wx_ret, ↓wx_ret0, ↓wx_iff, ↓wx_forr, ↓wx_forB, ↓wx_whil, ↓wx_whilT, ↓wx_whilB, ↓wx_tryy, ↓wx_del, ↓wo_delM, ↓wx_rais, ↓wx_brk, ↓wx_cnt, ↓wx_pass, ↓wx_lkd, ↓wxs_nil, ↓wxs_cons, ↓wp_ret, ↓wp_bind, ↓wp_of, ↓wp_ofs, ↓wp_op, ↓wp_calm, ↓wp_get, ↓wp_no, ↓wo_toO, ↓wo_seq, ↓wo_end, ↓wp_make, ↓bindK_ok, ↓bindK_er, ↓toOK_ok, ↓toOK_er, ↓seqK_rt, ↓seqK_bk, ↓seqK_ct, ↓seqK_ex, ↓calmK_ok, ↓retK_nx, ↓retK_rt, ↓retK_rtf, ↓retK_ex, ↓makeK_non, ↓makeK_nonf, ↓makeK_er, ↓tryK_ex, ↓tryK_nx, ↓tryK_rt, ↓tryK_bk, ↓tryK_ct, ↓ifK_t, ↓ifK_f, ↓turnK_nx, ↓turnK_ct, ↓turnK_bk, ↓turnK_rt, ↓turnK_ex, ↓whilK_nx, ↓whilK_ct, ↓whilK_bk, ↓whilK_rt, ↓whilK_ex, w1_some, w1_of, w1_ret, w1_ite, kcW, setE, wipeE, tgSlots, tgsSlots, List.getElem?_cons_zero, List.getElem?_cons_succ, Option.join_some, List.set_cons_zero, List.set_cons_succ, List.append_eq, b2_addI, b2_subI, b2_mulI, b2_fdivI, b2_mdI, b2_powI, b2_addT, b2_addS, b2_addL, c2_eq, c2_ne, c2_lt, c2_le, c2_gt, c2_ge, c2_in, c2_nin, Option.map_some, Option.bind_some, eqc_ii, eqc_ss, eqc_ints, eqc_intsT, eqc_ints0, eqc_intsT0, eqc_nilL, eqc_nilT, eqc_bb, eqc_is, eqc_si, eqc_ns, eqc_sn, eqc_nn, eqc_ni, eqc_in, List.all_cons, List.all_nil, tru_b, tru_i, mtru, biW_int, biW_intb, biW_abs, biW_min2, biW_max2, List.map_cons, List.map_nil, List.length_cons, List.length_nil, List.cons_append, List.nil_append, List.replicate_succ, List.replicate_zero, decide_true, decide_false, decide_eq_true_eq, if_true, if_false, ite_true, ite_false, Bool.not_true, Bool.not_false, reduceIte, and_true, true_and, false_and, and_false, ne_eq, not_true_eq_false, not_false_eq_true, Nat.zero_add, Bool.false_eq_true, reduceCtorEq, decide_not, Nat.sub_zero, eq_self, and_self, valsV_enc, keysV_enc, itemsV_enc, Nat.add_one_sub_one, smallI_eq, smallR_eq, seqOf, lstOf, forall_const, Bool.and_true, Bool.true_and, Bool.or_true, Bool.true_or, Bool.or_false, Bool.false_or, Bool.or_eq_true, Bool.and_eq_true, seval, idx_ref, idxR_lst, idxR_dct, idx_lst, idx_tup, idx_str, idx_dct, atI_0, atI_1, atI_2, atI_3, fld_ref, fldR_ins, getF_cons, getF_nil, putF_cons, putF_nil, stF_ref, stFR_ins, meth_ref, methR_ins, stS_ref, stSR_lst, stSR_dct, toKy_i, toKy_s, toKy_si, toKy_ss, toKy_ii, in_ref, inR_dct, inV_ref, in_ints, in_intsT, del_ref, dctOf_ref, dctR_dct, get2_eq, get2R_some, Option.getD_some, Option.getD_none, delR_S, delR_I, wd_some, leLine_t, ltLine_t, vw_ref, vwR_dct, unlkR, lockK_r, lockO_rt, lockO_nx, slc_lst, slc_tup, slc_str, cutL_1, len_lst, len_tup, len_str, tuple_lst, tuple_tup, list_tup, list_lst, mkL_f, mkL_t, dict_lst, listd_eq, listdR_some, src_lst, src_tup, src_str, src_ref, set_get, new_get, set_nxt, new_nxt, set_set, getK_S, getK_I, getK_SI, getK_SS, kyOk_S, kyOk_I, kyOk_SI, kyOk_SS, delK_S, delK_I, kyW_S, kyW_I, kyW_SI, kyW_SS, Option.isSome_map, Option.isSome_none, Option.isSome_some, Option.map_none, Option.bind_none, inVR_enc, List.append_nil, $as,*])
local macro_rules | `(tactic| dsimp? [$as,*]) => `(tactic| simp only [↓wv_cst, ↓wv_var, ↓wv_bin, ↓wv_neg, ↓wv_cmp, ↓wv_chn, ↓wv_isN, ↓wv_and, ↓wv_or, ↓wv_not, ↓wv_ite, ↓wv_tup, ↓wv_lst, ↓wv_dct0, ↓wv_fld, ↓wv_idx, ↓wv_slc, ↓wv_call, ↓wv_new, ↓wv_meth, ↓wv_bi, ↓wv_bm, ↓wv_comp, ↓wc_compG, ↓wv_lkd, ↓wv_inV, ↓wv_litems, ↓wv_dget, ↓wv_lam, ↓wv_thk, ↓ws_nil, ↓ws_cons, ↓wt_nil, ↓wt_cons, ↓wq_no, ↓wq_so, ↓wi_seq, ↓wi_rng1, ↓wi_rng2, ↓wi_enum, ↓wi_keys, ↓wi_vals, ↓wi_items, ↓wg_var, ↓wg_tup, ↓wg_sub, ↓wg_fld, ↓wgs_nil, ↓wgs_cons, ↓wx_expr, ↓wx_asg, ↓wx_aug, ↓wx_augF, ↓wx_augS, ↓wx_ret, ↓wx_ret0, ↓wx_iff, ↓wx_forr, ↓wx_forB, ↓wx_whil, ↓wx_whilT, ↓wx_whilB, ↓wx_tryy, ↓wx_del, ↓wo_delM, ↓wx_rais, ↓wx_brk, ↓wx_cnt, ↓wx_pass, ↓wx_lkd, ↓wxs_nil, ↓wp_ret, ↓wp_bind, ↓wp_of, ↓wp_ofs, ↓wp_op, ↓wp_calm, ↓wp_get, ↓wp_no, ↓wo_toO, ↓wo_seq, ↓wo_end, ↓wp_make, ↓bindK_ok, ↓bindK_er, ↓toOK_ok, ↓toOK_er, ↓seqK_nx, ↓seqK_rt, ↓seqK_bk, ↓seqK_ct, ↓seqK_ex, ↓calmK_ok, ↓retK_nx, ↓retK_rt, ↓retK_rtf, ↓retK_ex, ↓makeK_non, ↓makeK_nonf, ↓makeK_er, ↓tryK_ex, ↓tryK_nx, ↓tryK_rt, ↓tryK_bk, ↓tryK_ct, ↓ifK_t, ↓ifK_f, ↓turnK_nx, ↓turnK_ct, ↓turnK_bk, ↓turnK_rt, ↓turnK_ex, ↓whilK_nx, ↓whilK_ct, ↓whilK_bk, ↓whilK_rt, ↓whilK_ex, w1_some, w1_of, w1_ret, w1_ite, kcW, setE, wipeE, tgSlots, tgsSlots, List.getElem?_cons_zero, List.getElem?_cons_succ, Option.join_some, List.set_cons_zero, List.set_cons_succ, List.append_eq, b2_addI, b2_subI, b2_mulI, b2_fdivI, b2_mdI, b2_powI, b2_addT, b2_addS, b2_addL, c2_eq, c2_ne, c2_lt, c2_le, c2_gt, c2_ge, c2_in, c2_nin, Option.map_some, Option.bind_some, eqc_ii, eqc_ss, eqc_ints, eqc_intsT, eqc_ints0, eqc_intsT0, eqc_nilL, eqc_nilT, eqc_bb, eqc_is, eqc_si, eqc_ns, eqc_sn, eqc_nn, eqc_ni, eqc_in, List.all_cons, List.all_nil, tru_b, tru_i, mtru, biW_int, biW_intb, biW_abs, biW_min2, biW_max2, List.map_cons, List.map_nil, List.length_cons, List.length_nil, List.cons_append, List.nil_append, List.replicate_succ, List.replicate_zero, decide_true, decide_false, decide_eq_true_eq, if_true, if_false, ite_true, ite_false, Bool.not_true, Bool.not_false, reduceIte, and_true, true_and, false_and, and_false, ne_eq, not_true_eq_false, not_false_eq_true, Nat.zero_add, Bool.false_eq_true, reduceCtorEq, decide_not, Nat.sub_zero, eq_self, and_self, valsV_enc, keysV_enc, itemsV_enc, Nat.add_one_sub_one, smallI_eq, smallR_eq, seqOf, lstOf, forall_const, Bool.and_true, Bool.true_and, Bool.or_true, Bool.true_or, Bool.or_false, Bool.false_or, Bool.or_eq_true, Bool.and_eq_true, seval, idx_ref, idxR_lst, idxR_dct, idx_lst, idx_tup, idx_str, idx_dct, atI_0, atI_1, atI_2, atI_3, fld_ref, fldR_ins, getF_cons, getF_nil, putF_cons, putF_nil, stF_ref, stFR_ins, meth_ref, methR_ins, stS_ref, stSR_lst, stSR_dct, toKy_i, toKy_s, toKy_si, toKy_ss, toKy_ii, in_ref, inR_dct, inV_ref, in_ints, in_intsT, del_ref, dctOf_ref, dctR_dct, get2_eq, get2R_some, Option.getD_some, Option.getD_none, delR_S, delR_I, wd_some, leLine_t, ltLine_t, vw_ref, vwR_dct, unlkR, lockK_r, lockO_rt, lockO_nx, slc_lst, slc_tup, slc_str, cutL_1, len_lst, len_tup, len_str, tuple_lst, tuple_tup, list_tup, list_lst, mkL_f, mkL_t, dict_lst, listd_eq, listdR_some, src_lst, src_tup, src_str, src_ref, set_get, new_get, set_nxt, new_nxt, set_set, getK_S, getK_I, getK_SI, getK_SS, kyOk_S, kyOk_I, kyOk_SI, kyOk_SS, delK_S, delK_I, kyW_S, kyW_I, kyW_SI, kyW_SS, Option.isSome_map, Option.isSome_none, Option.isSome_some, Option.map_none, Option.bind_none, inVR_enc, List.append_nil, $as,*])
variable {P : Pg} (hP : PgF P)
def gb : Ss := (b20.get 4).body
def tLa : List Nat := [108, 97, 114, 103, 101]
theorem gk_ok {k : Nm × Int} (h : k ∈ gk) : k.1.all (fun c => decide (c < 1114112)) = true ∧ k.1 ≠ [119, 101, 98] := by
  simp only [gk, List.mem_cons, List.not_mem_nil, or_false] at h
  rcases h with rfl | rfl | rfl | rfl | rfl | rfl <;> decide
theorem gk_two {k : Nm × Int} (h : k ∈ gk) : ∃ c, k.1 = [c] ∧ [c].all (fun c => decide (c < 1114112)) = true := by
  simp only [gk, List.mem_cons, List.not_mem_nil, or_false] at h
  rcases h with rfl | rfl | rfl | rfl | rfl | rfl <;> exact ⟨_, rfl, by decide⟩
theorem free_ok {many p : Int} {rc : Rc} (h : p ∈ freeG many rc) (hm : 1 ≤ many) : (50 ≤ p ∧ p < 50 + many) ∧ ∀ q ∈ rc, q.2.1 ≠ p := by
  unfold freeG at h
  obtain ⟨h1, h2⟩ := List.mem_filter.mp h
  rw [mem_rangeI] at h1
  refine ⟨by omega, fun q hq e => ?_⟩
  simp only [Bool.not_eq_true', decide_eq_false_iff_not] at h2
  exact h2 (List.mem_map.mpr ⟨q, hq, e⟩)
def portW (many : Int) (k : Nm × Int) (to : Nm) (m : Int) (rc : Rc) : W := match outP many k to m rc with
  | some (p, _) => .int p
  | none => .str tLa
include hP
theorem gA {j : Nat} {s : Sto} {many time m : Int} {l : Lt} {h : Hd} {g rp fx rl c : Nat} {rc : Rc} {b : Bool} (I : RI s many time l h g rp fx rl c rc (alive time m rc) b) (hm : 1 ≤ many ∧ many ≤ 4) {k : Nm × Int} (hk : k ∈ gk) {to : Nm} (hto : to = [120] ∨ to = [121]) (hc : c ≤ 50) {o4 o5 o6 o7 o14 o15 o16 o17 o18 : Option W} {Q : KO}
    (q : ∀ s' rp' rc' o14 o15 o16 o18, RI s' many time l h g rp' fx rl (c + 1) rc' rc' b → Q (.nx [some (.ref 0), some (.int many), some (.int time), some (.ref 1), o4, o5, o6, o7, some (.ref g), some (.ref rl), some (.int m), some (.bl b), some (.tup [.str k.1, .int k.2]), some (.str to), o14, o15, o16, o17, o18]) s') :
    Wo (exs P (tower P (j + 6)) none (gb.get 2).body [some (.ref 0), some (.int many), some (.int time), some (.ref 1), o4, o5, o6, o7, some (.ref g), some (.ref rl), some (.int m), some (.bl b), some (.tup [.str k.1, .int k.2]), some (.str to), o14, o15, o16, o17, o18]) s Q := by
  have I1 := I.I.alive time m
  obtain ⟨kt, ki⟩ := k
  obtain ⟨hkok, hkw⟩ := gk_ok hk
  have htok : to.all (fun c => decide (c < 1114112)) = true := by rcases hto with rfl | rfl <;> decide
  have hr := I.r
  have l6 := I1.l6
  have hG := I.G
  generalize hrc : alive time m rc = rc1 at I I1 hr l6
  simp only [gb, b20, Ss.get, S.body]
  rw [wxs_cons]
  dsimp? []
  rw [wo_lock (n := rl) (kvs := encD eSI eRl rc1) (by simp [lkN, hr])]
  dsimp? []
  refine wp_comp1 (inj := fun p : (Nm × Int) × Rv => .tup [.str p.1.1, .int p.1.2]) (emb := .int) (g := fun p => p.2.1) rc1 (rc1.map (·.2.1)) rfl rfl ?_ (by simp [set_get, beqD_self]) ?_
  · rintro ⟨⟨x, i⟩, p, t, as, fs⟩ hx
    push_cast [idxR_dctT (encD_ne hx), lk_of I1.kn hx, eRl]
  dsimp? [set_self hr]
  refine ⟨le_line (by rw [List.length_map, List.length_map]; omega), ?_⟩
  rw [wxs_cons]
  dsimp? []
  refine ⟨by omega, ?_⟩
  have e1 : (50 + many - 50).toNat = many.toNat := by omega
  refine wp_comp (inj := .int) (p := fun a => !decide (a ∈ rc1.map (·.2.1))) (emb := .int) (g := fun a => a) (rangeI 50 many.toNat) (freeG many rc1) (by rw [e1, rangeL_eq]) (by simp [freeG]) ?_ rfl ?_
  · intro a ha
    by_cases c : a ∈ rc1.map (·.2.1)
    all_goals push_cast [c]
  have hf : (freeG many rc1).length ≤ 4 := by
    unfold freeG
    refine Nat.le_trans (List.length_filter_le _ _) ?_
    rw [rangeI_len]
    omega
  dsimp? []
  refine ⟨le_line (by rw [List.length_map]; omega), ?_⟩
  have t3 (o14 o15 : Option W) : Wo (exs P (tower P (j + 6)) none ((gb.get 2).body.drop 3) [some (.ref 0), some (.int many), some (.int time), some (.ref 1), o4, o5, o6, o7, some (.ref g), some (.ref rl), some (.int m), some (.bl b), some (.tup [.str kt, .int ki]), some (.str to), o14, o15, some (portW many (kt, ki) to m rc1), o17, o18]) s Q := by
    simp only [gb, b20, Ss.get, S.body, Ss.drop]
    rw [wxs_cons]
    dsimp? [dr2]
    refine told_wp hP ?_
    dsimp? [hP.all, hG.a]
    refine out_wp hP hG hm I.I.l6 I.I.kn hkok htok I.I.ok hkw (fun p hp => Nat.le_trans (I.I.al p hp) (by omega)) ?_
    intro s' rp' r x fr hp hres
    rw [hrc] at hres
    unfold portW
    cases e : outP many (kt, ki) to m rc1 with
    | none =>
      rw [e] at hres
      obtain ⟨rfl, G'⟩ := hres
      dsimp? [told_er, toldS, tLa]
      rw [wxs_cons]
      dsimp? []
      exact q s' rp' rc1 _ _ _ _ (I.gate x (fun k z1 z2 z3 => fr k z1 z3) hp G' (I1.mono (by omega)))
    | some v =>
      obtain ⟨p, rc2⟩ := v
      rw [e] at hres
      obtain ⟨rfl, G'⟩ := hres
      dsimp? [told_ok]
      rw [wxs_cons]
      dsimp? [tLa]
      have fr' : ∀ k, k ≠ g → k ≠ fx → k < s.nxt → s'.get k = s.get k := fun k z1 z2 z3 => fr k z1 z3
      have hr' := (fr rl I.n1 I.ln).trans hr
      unfold outP at e
      cases e2 : lk (kt, ki) rc1 with
      | some v =>
        obtain ⟨p2, t2, as, fs⟩ := v
        rw [e2] at e
        simp only [Option.some.injEq, Prod.mk.injEq] at e
        obtain ⟨rfl, rfl⟩ := e
        have hmem := lk_some e2
        have e3 : fs.map W.str ++ [W.str to] = (fs ++ [to]).map W.str := by simp
        have hfl := I1.fl _ hmem
        rw [wxs_cons]
        dsimp? [hr', e2, eRl, e3, encD_len, putRl (if to ∈ as then as else as ++ [to])]
        refine ⟨le_line (by rw [List.length_map]; simp only at hfl; omega), lt_line (by omega), ?_⟩
        have haf := I1.af _ hmem
        have hax := I1.ax _ hmem
        have hal := I1.al _ hmem
        simp only at haf hax hal hfl
        refine q _ rp' (Mn.pt (kt, ki) (p2, m, if to ∈ as then as else as ++ [to], fs ++ [to]) rc1) _ _ _ _ (RI.rows (I.gate x fr' hp G' ?_))
        refine I1.pt hk (I1.pr _ hmem) (fun z hz hne he => ?_) (fun x => ?_) (fun x hx => ?_) ?_ (by simp; omega)
        · have := I1.pu _ hz _ hmem he
          rw [this] at hne
          exact hne rfl
        · by_cases z : to ∈ as
          · rw [if_pos z]
            simp only [List.mem_append, List.mem_singleton, haf]
            constructor
            · exact .inl
            · rintro (y | rfl)
              · exact y
              · exact (haf x).mp z
          · rw [if_neg z]
            simp only [List.mem_append, List.mem_singleton, haf]
        · by_cases z : to ∈ as
          · rw [if_pos z] at hx
            exact hax x hx
          · rw [if_neg z] at hx
            rcases List.mem_append.mp hx with y | y
            · exact hax x y
            · rw [List.mem_singleton.mp y]; exact hto
        · by_cases z : to ∈ as
          · rw [if_pos z]; omega
          · rw [if_neg z]; simp; omega
      | none =>
        rw [e2] at e
        cases e4 : freeG many rc1 with
        | nil => rw [e4] at e; cases e
        | cons p3 fr3 =>
          rw [e4] at e
          simp only [Option.some.injEq, Prod.mk.injEq] at e
          obtain ⟨rfl, rfl⟩ := e
          obtain ⟨f1, f2⟩ := free_ok (p := p3) (rc := rc1) (by rw [e4]; simp) hm.1
          have e3 : (.lst [.str to] : W) = .lst ([to].map .str) := rfl
          rw [wxs_cons]
          dsimp? [hr', e2, encD_len]
          rw [e3, putRl [to]]
          refine ⟨lt_line (by omega), ?_⟩
          refine q _ rp' (Mn.pt (kt, ki) (p3, m, [to], [to]) rc1) _ _ _ _ (RI.rows (I.gate x fr' hp G' ?_))
          refine I1.pt hk f1 (fun z hz _ => f2 z hz) (fun x => Iff.rfl) (fun x hx => ?_) (by simp) (by simp)
          rw [List.mem_singleton.mp hx]; exact hto
  rw [wxs_cons]
  have t := t3
  unfold portW outP at t
  cases e : lk (kt, ki) rc1 with
  | some v =>
    obtain ⟨p, t2, as, fs⟩ := v
    simp only [e] at t
    dsimp? [hr, e, eRl]
    exact t _ _
  | none =>
    simp only [e] at t
    by_cases c : freeG many rc1 = []
    · simp only [c] at t
      dsimp? [hr, e, c]
      exact t _ _
    · dsimp? [hr, e, c]
      cases e4 : freeG many rc1 with
      | nil => exact (c e4).elim
      | cons p fr =>
        simp only [e4] at t
        dsimp? []
        exact t _ _
end L

end

section
set_option Elab.async false
set_option linter.all false
set_option maxRecDepth 100000
set_option maxHeartbeats 4000000
namespace L
open Mn
local macro_rules | `(tactic| push_cast [$as,*]) => `(tactic| simp only [↓wv_cst, ↓wv_var, ↓wv_bin, ↓wv_neg, ↓wv_cmp, ↓wv_chn, ↓wv_isN, ↓wv_and, ↓wv_or, ↓wv_not, ↓wv_ite, ↓wv_tup, ↓wv_lst, ↓wv_dct0, ↓wv_fld, ↓wv_idx, ↓wv_slc, ↓wv_call, ↓wv_new, ↓wv_meth, ↓wv_bi, ↓wv_bm, ↓wv_comp, ↓wc_compG, ↓wv_lkd, ↓wv_inV, ↓wv_litems, ↓wv_dget, ↓wv_lam, ↓wv_thk, ↓ws_nil, ↓ws_cons, ↓wt_nil, ↓wt_cons, ↓wq_no, ↓wq_so, ↓wi_seq, ↓wi_rng1, ↓wi_rng2, ↓wi_enum, ↓wi_keys, ↓wi_vals, ↓wi_items, ↓wg_var, ↓wg_tup, ↓wg_sub, ↓wg_fld, ↓wgs_nil, ↓wgs_cons, ↓wx_expr, ↓wx_asg, ↓wx_aug, ↓wx_augF, ↓wx_augS, ↓wx_ret, ↓wx_ret0, ↓wx_iff, ↓wx_forr, ↓wx_forB, ↓wx_whil, ↓wx_whilT, ↓wx_whilB, ↓wx_tryy, ↓wx_del, ↓wo_delM, ↓wx_rais, ↓wx_brk, ↓wx_cnt, ↓wx_pass, ↓wx_lkd, ↓wxs_nil, ↓wxs_cons, ↓wp_ret, ↓wp_bind, ↓wp_of, ↓wp_ofs, ↓wp_op, ↓wp_calm, ↓wp_get, ↓wp_no, ↓wo_toO, ↓wo_seq, ↓wo_end, ↓wp_make, ↓bindK_ok, ↓bindK_er, ↓toOK_ok, ↓toOK_er, ↓seqK_nx, ↓seqK_rt, ↓seqK_bk, ↓seqK_ct, ↓seqK_ex, ↓calmK_ok, ↓retK_nx, ↓retK_rt, ↓retK_rtf, ↓retK_ex, ↓makeK_non, ↓makeK_nonf, ↓makeK_er, ↓tryK_ex, ↓tryK_nx, ↓tryK_rt, ↓tryK_bk, ↓tryK_ct, ↓ifK_t, ↓ifK_f, ↓turnK_nx, ↓turnK_ct, ↓turnK_bk, ↓turnK_rt, ↓turnK_ex, ↓whilK_nx, ↓whilK_ct, ↓whilK_bk, ↓whilK_rt, ↓whilK_ex, w1_some, w1_of, w1_ret, w1_ite, kcW, setE, wipeE, tgSlots, tgsSlots, List.getElem?_cons_zero, List.getElem?_cons_succ, Option.join_some, List.set_cons_zero, List.set_cons_succ, List.append_eq, b2_addI, b2_subI, b2_mulI, b2_fdivI, b2_mdI, b2_powI, b2_addT, b2_addS, b2_addL, c2_eq, c2_ne, c2_lt, c2_le, c2_gt, c2_ge, c2_in, c2_nin, Option.map_some, Option.bind_some, eqc_ii, eqc_ss, eqc_ints, eqc_intsT, eqc_ints0, eqc_intsT0, eqc_nilL, eqc_nilT, eqc_bb, eqc_is, eqc_si, eqc_ns, eqc_sn, eqc_nn, eqc_ni, eqc_in, List.all_cons, List.all_nil, tru_b, tru_i, mtru, biW_int, biW_intb, biW_abs, biW_min2, biW_max2, List.map_cons, List.map_nil, List.length_cons, List.length_nil, List.cons_append, List.nil_append, List.replicate_succ, List.replicate_zero, decide_true, decide_false, decide_eq_true_eq, if_true, if_false, ite_true, ite_false, Bool.not_true, Bool.not_false, reduceIte, and_true, true_and, false_and, and_false, ne_eq, not_true_eq_false, not_false_eq_true, Nat.zero_add, Bool.false_eq_true, reduceCtorEq, decide_not, Nat.sub_zero, eq_self, and_self, valsV_enc, keysV_enc, itemsV_enc, Nat.add_one_sub_one, smallI_eq, smallR_eq, seqOf, lstOf, forall_const, Bool.and_true, Bool.true_and, Bool.or_true, Bool.true_or, Bool.or_false, Bool.false_or, Bool.or_eq_true, Bool.and_eq_true, seval, idx_ref, idxR_lst, idxR_dct, idx_lst, idx_tup, idx_str, idx_dct, atI_0, atI_1, atI_2, atI_3, fld_ref, fldR_ins, getF_cons, getF_nil, putF_cons, putF_nil, stF_ref, stFR_ins, meth_ref, methR_ins, stS_ref, stSR_lst, stSR_dct, toKy_i, toKy_s, toKy_si, toKy_ss, toKy_ii, in_ref, inR_dct, inV_ref, in_ints, in_intsT, del_ref, dctOf_ref, dctR_dct, get2_eq, get2R_some, Option.getD_some, Option.getD_none, delR_S, delR_I, wd_some, leLine_t, ltLine_t, vw_ref, vwR_dct, unlkR, lockK_r, lockO_rt, lockO_nx, slc_lst, slc_tup, slc_str, cutL_1, len_lst, len_tup, len_str, tuple_lst, tuple_tup, list_tup, list_lst, mkL_f, mkL_t, dict_lst, listd_eq, listdR_some, src_lst, src_tup, src_str, src_ref, set_get, new_get, set_nxt, new_nxt, set_set, getK_S, getK_I, getK_SI, getK_SS, kyOk_S, kyOk_I, kyOk_SI, kyOk_SS, delK_S, delK_I, kyW_S, kyW_I, kyW_SI, kyW_SS, Option.isSome_map, Option.isSome_none, Option.isSome_some, Option.map_none, Option.bind_none, inVR_enc, List.append_nil, $as,*])
local macro_rules | `(tactic| simp? [$as,*]) => `(tactic| simp only [↓wv_cst, ↓wv_var, ↓wv_bin, ↓wv_neg, ↓wv_cmp, ↓wv_chn, ↓wv_isN, ↓wv_and, ↓wv_or, ↓wv_not, ↓wv_ite, ↓wv_tup, ↓wv_lst, ↓wv_dct0, ↓wv_fld, ↓wv_idx, ↓wv_slc, ↓wv_call, ↓wv_new, ↓wv_meth, ↓wv_bi, ↓wv_bm, ↓wv_comp, ↓wc_compG, ↓wv_lkd, ↓wv_inV, ↓wv_litems, ↓wv_dget, ↓wv_lam, ↓wv_thk, ↓ws_nil, ↓ws_cons, ↓wt_nil, ↓wt_cons, ↓wq_no, ↓wq_so, ↓wi_seq, ↓wi_rng1, ↓wi_rng2, ↓wi_enum, ↓wi_keys, ↓wi_vals, ↓wi_items, ↓wg_var, ↓wg_tup, ↓wg_sub, ↓wg_fld, ↓wgs_nil, ↓wgs_cons, ↓wx_expr, ↓wx_asg, ↓wx_aug, ↓wx_augF, ↓wx_augS, ↓wx_ret, ↓wx_ret0, ↓wx_iff, ↓wx_forr, ↓wx_forB, ↓wx_whil, ↓wx_whilT, ↓wx_whilB, ↓wx_tryy, ↓wx_del, ↓wo_delM, ↓wx_rais, ↓wx_brk, ↓wx_cnt, ↓wx_pass, ↓wx_lkd, ↓wxs_nil, ↓wxs_cons, ↓wp_ret, ↓wp_bind, ↓wp_of, ↓wp_ofs, ↓wp_op, ↓wp_calm, ↓wp_get, ↓wp_no, ↓wo_toO, ↓wo_seq, ↓wo_end, ↓wp_make, ↓bindK_ok, ↓bindK_er, ↓toOK_ok, ↓toOK_er, ↓seqK_rt, ↓seqK_bk, ↓seqK_ct, ↓seqK_ex, ↓calmK_ok, ↓retK_nx, ↓retK_rt, ↓retK_rtf, ↓retK_ex, ↓makeK_non, ↓makeK_nonf, ↓makeK_er, ↓tryK_ex, ↓tryK_nx, ↓tryK_rt, ↓tryK_bk, ↓tryK_ct, ↓ifK_t, ↓ifK_f, ↓turnK_nx, ↓turnK_ct, ↓turnK_bk, ↓turnK_rt, ↓turnK_ex, ↓whilK_nx, ↓whilK_ct, ↓whilK_bk, ↓whilK_rt, ↓whilK_ex, w1_some, w1_of, w1_ret, w1_ite, kcW, setE, wipeE, tgSlots, tgsSlots, List.getElem?_cons_zero, List.getElem?_cons_succ, Option.join_some, List.set_cons_zero, List.set_cons_succ, List.append_eq, b2_addI, b2_subI, b2_mulI, b2_fdivI, b2_mdI, b2_powI, b2_addT, b2_addS, b2_addL, c2_eq, c2_ne, c2_lt, c2_le, c2_gt, c2_ge, c2_in, c2_nin, Option.map_some, Option.bind_some, eqc_ii, eqc_ss, eqc_ints, eqc_intsT, eqc_ints0, eqc_intsT0, eqc_nilL, eqc_nilT, eqc_bb, eqc_is, eqc_si, eqc_ns, eqc_sn, eqc_nn, eqc_ni, eqc_in, List.all_cons, List.all_nil, tru_b, tru_i, mtru, biW_int, biW_intb, biW_abs, biW_min2, biW_max2, List.map_cons, List.map_nil, List.length_cons, List.length_nil, List.cons_append, List.nil_append, List.replicate_succ, List.replicate_zero, decide_true, decide_false, decide_eq_true_eq, if_true, if_false, ite_true, ite_false, Bool.not_true, Bool.not_false, reduceIte, and_true, true_and, false_and, and_false, ne_eq, not_true_eq_false, not_false_eq_true, Nat.zero_add, Bool.false_eq_true, reduceCtorEq, decide_not, Nat.sub_zero, eq_self, and_self, valsV_enc, keysV_enc, itemsV_enc, Nat.add_one_sub_one, smallI_eq, smallR_eq, seqOf, lstOf, forall_const, Bool.and_true, Bool.true_and, Bool.or_true, Bool.true_or, Bool.or_false, Bool.false_or, Bool.or_eq_true, Bool.and_eq_true, seval, idx_ref, idxR_lst, idxR_dct, idx_lst, idx_tup, idx_str, idx_dct, atI_0, atI_1, atI_2, atI_3, fld_ref, fldR_ins, getF_cons, getF_nil, putF_cons, putF_nil, stF_ref, stFR_ins, meth_ref, methR_ins, stS_ref, stSR_lst, stSR_dct, toKy_i, toKy_s, toKy_si, toKy_ss, toKy_ii, in_ref, inR_dct, inV_ref, in_ints, in_intsT, del_ref, dctOf_ref, dctR_dct, get2_eq, get2R_some, Option.getD_some, Option.getD_none, delR_S, delR_I, wd_some, leLine_t, ltLine_t, vw_ref, vwR_dct, unlkR, lockK_r, lockO_rt, lockO_nx, slc_lst, slc_tup, slc_str, cutL_1, len_lst, len_tup, len_str, tuple_lst, tuple_tup, list_tup, list_lst, mkL_f, mkL_t, dict_lst, listd_eq, listdR_some, src_lst, src_tup, src_str, src_ref, set_get, new_get, set_nxt, new_nxt, set_set, getK_S, getK_I, getK_SI, getK_SS, kyOk_S, kyOk_I, kyOk_SI, kyOk_SS, delK_S, delK_I, kyW_S, kyW_I, kyW_SI, kyW_SS, Option.isSome_map, Option.isSome_none, Option.isSome_some, Option.map_none, Option.bind_none, inVR_enc, List.append_nil, $as,*])
local macro_rules | `(tactic| dsimp? [$as,*]) => `(tactic| simp only [↓wv_cst, ↓wv_var, ↓wv_bin, ↓wv_neg, ↓wv_cmp, ↓wv_chn, ↓wv_isN, ↓wv_and, ↓wv_or, ↓wv_not, ↓wv_ite, ↓wv_tup, ↓wv_lst, ↓wv_dct0, ↓wv_fld, ↓wv_idx, ↓wv_slc, ↓wv_call, ↓wv_new, ↓wv_meth, ↓wv_bi, ↓wv_bm, ↓wv_comp, ↓wc_compG, ↓wv_lkd, ↓wv_inV, ↓wv_litems, ↓wv_dget, ↓wv_lam, ↓wv_thk, ↓ws_nil, ↓ws_cons, ↓wt_nil, ↓wt_cons, ↓wq_no, ↓wq_so, ↓wi_seq, ↓wi_rng1, ↓wi_rng2, ↓wi_enum, ↓wi_keys, ↓wi_vals, ↓wi_items, ↓wg_var, ↓wg_tup, ↓wg_sub, ↓wg_fld, ↓wgs_nil, ↓wgs_cons, ↓wx_expr, ↓wx_asg, ↓wx_aug, ↓wx_augF, ↓wx_augS, ↓wx_ret, ↓wx_ret0, ↓wx_iff, ↓wx_forr, ↓wx_forB, ↓wx_whil, ↓wx_whilT, ↓wx_whilB, ↓wx_tryy, ↓wx_del, ↓wo_delM, ↓wx_rais, ↓wx_brk, ↓wx_cnt, ↓wx_pass, ↓wx_lkd, ↓wxs_nil, ↓wp_ret, ↓wp_bind, ↓wp_of, ↓wp_ofs, ↓wp_op, ↓wp_calm, ↓wp_get, ↓wp_no, ↓wo_toO, ↓wo_seq, ↓wo_end, ↓wp_make, ↓bindK_ok, ↓bindK_er, ↓toOK_ok, ↓toOK_er, ↓seqK_nx, ↓seqK_rt, ↓seqK_bk, ↓seqK_ct, ↓seqK_ex, ↓calmK_ok, ↓retK_nx, ↓retK_rt, ↓retK_rtf, ↓retK_ex, ↓makeK_non, ↓makeK_nonf, ↓makeK_er, ↓tryK_ex, ↓tryK_nx, ↓tryK_rt, ↓tryK_bk, ↓tryK_ct, ↓ifK_t, ↓ifK_f, ↓turnK_nx, ↓turnK_ct, ↓turnK_bk, ↓turnK_rt, ↓turnK_ex, ↓whilK_nx, ↓whilK_ct, ↓whilK_bk, ↓whilK_rt, ↓whilK_ex, w1_some, w1_of, w1_ret, w1_ite, kcW, setE, wipeE, tgSlots, tgsSlots, List.getElem?_cons_zero, List.getElem?_cons_succ, Option.join_some, List.set_cons_zero, List.set_cons_succ, List.append_eq, b2_addI, b2_subI, b2_mulI, b2_fdivI, b2_mdI, b2_powI, b2_addT, b2_addS, b2_addL, c2_eq, c2_ne, c2_lt, c2_le, c2_gt, c2_ge, c2_in, c2_nin, Option.map_some, Option.bind_some, eqc_ii, eqc_ss, eqc_ints, eqc_intsT, eqc_ints0, eqc_intsT0, eqc_nilL, eqc_nilT, eqc_bb, eqc_is, eqc_si, eqc_ns, eqc_sn, eqc_nn, eqc_ni, eqc_in, List.all_cons, List.all_nil, tru_b, tru_i, mtru, biW_int, biW_intb, biW_abs, biW_min2, biW_max2, List.map_cons, List.map_nil, List.length_cons, List.length_nil, List.cons_append, List.nil_append, List.replicate_succ, List.replicate_zero, decide_true, decide_false, decide_eq_true_eq, if_true, if_false, ite_true, ite_false, Bool.not_true, Bool.not_false, reduceIte, and_true, true_and, false_and, and_false, ne_eq, not_true_eq_false, not_false_eq_true, Nat.zero_add, Bool.false_eq_true, reduceCtorEq, decide_not, Nat.sub_zero, eq_self, and_self, valsV_enc, keysV_enc, itemsV_enc, Nat.add_one_sub_one, smallI_eq, smallR_eq, seqOf, lstOf, forall_const, Bool.and_true, Bool.true_and, Bool.or_true, Bool.true_or, Bool.or_false, Bool.false_or, Bool.or_eq_true, Bool.and_eq_true, seval, idx_ref, idxR_lst, idxR_dct, idx_lst, idx_tup, idx_str, idx_dct, atI_0, atI_1, atI_2, atI_3, fld_ref, fldR_ins, getF_cons, getF_nil, putF_cons, putF_nil, stF_ref, stFR_ins, meth_ref, methR_ins, stS_ref, stSR_lst, stSR_dct, toKy_i, toKy_s, toKy_si, toKy_ss, toKy_ii, in_ref, inR_dct, inV_ref, in_ints, in_intsT, del_ref, dctOf_ref, dctR_dct, get2_eq, get2R_some, Option.getD_some, Option.getD_none, delR_S, delR_I, wd_some, leLine_t, ltLine_t, vw_ref, vwR_dct, unlkR, lockK_r, lockO_rt, lockO_nx, slc_lst, slc_tup, slc_str, cutL_1, len_lst, len_tup, len_str, tuple_lst, tuple_tup, list_tup, list_lst, mkL_f, mkL_t, dict_lst, listd_eq, listdR_some, src_lst, src_tup, src_str, src_ref, set_get, new_get, set_nxt, new_nxt, set_set, getK_S, getK_I, getK_SI, getK_SS, kyOk_S, kyOk_I, kyOk_SI, kyOk_SS, delK_S, delK_I, kyW_S, kyW_I, kyW_SI, kyW_SS, Option.isSome_map, Option.isSome_none, Option.isSome_some, Option.map_none, Option.bind_none, inVR_enc, List.append_nil, $as,*])
variable {P : Pg} (hP : PgF P)
theorem sortKeys {s : Sto} {n : Nat} {ve : Rv → W} {rc : Rc} (h : s.get n = some (.dct false (encD eSI ve rc))) (hl : rc.length ≤ 6) : biW .sortT [.ref n] s = some (.lst ((sortG kK unK (rc.map (·.1))).map (eT kK)), s) := by
  rw [sortT_G (kf := kK) (un := unK) (fun _ => rfl) (fun _ _ => rfl) (fun _ => by simp [kK]) (l := rc.map (·.1)) (by rw [itemsOf_ref h, keysV_enc, List.map_map]; rfl)]
  rw [if_pos (by rw [List.length_map]; omega)]
def fitsL (port : Int) (far : Nm) (rc : Rc) : List (Nm × Int) := (sortG kK unK (rc.map (·.1))).filter fun k => match lk k rc with
  | some (p, _, _, fs) => decide (p = port) && decide (far ∈ fs)
  | none => false
theorem fits_some {many : Int} {c : Nat} {rc : Rc} (I : RcI many c rc) {port : Int} {far : Nm} {k : Nm × Int} {v : Rv} (h : rc.find? (fun p => decide (p.2.1 = port) && decide (far ∈ p.2.2.2.1)) = some (k, v)) : fitsL port far rc = [k] := by
  have h1 := List.mem_of_find?_eq_some h
  have h2 := List.find?_some h
  simp only [Bool.and_eq_true, decide_eq_true_eq] at h2
  have hn : (fitsL port far rc).Nodup := by
    unfold fitsL
    exact ((sortG_perm (fun _ => rfl)).nodup_iff.mpr I.kn).filter _
  have hm : ∀ x, x ∈ fitsL port far rc ↔ x = k := by
    intro x
    unfold fitsL
    rw [List.mem_filter, sortG_mem (fun _ => rfl)]
    constructor
    · rintro ⟨x1, x2⟩
      cases e : lk x rc with
      | none => rw [e] at x2; cases x2
      | some u =>
        rw [e] at x2
        simp only [Bool.and_eq_true, decide_eq_true_eq] at x2
        have := I.pu _ (lk_some e) _ h1 (x2.1.trans h2.1.symm)
        exact congrArg (·.1) this
    · rintro rfl
      refine ⟨List.mem_map.mpr ⟨_, h1, rfl⟩, ?_⟩
      have e := lk_of I.kn h1
      obtain ⟨p, t, as, fs⟩ := v
      rw [e]
      have := (I.af _ h1 far).mp h2.2
      simp only [Bool.and_eq_true, decide_eq_true_eq]
      exact ⟨h2.1, this⟩
  match e : fitsL port far rc with
  | [] => rw [e] at hm; exact absurd ((hm k).mpr rfl) (by simp)
  | [x] => rw [e] at hm; rw [(hm x).mp (by simp)]
  | x :: y :: r =>
    rw [e] at hm hn
    have e1 := (hm x).mp (by simp)
    have e2 := (hm y).mp (by simp)
    simp only [List.nodup_cons, List.mem_cons] at hn
    exact (hn.1 (.inl (e1.trans e2.symm))).elim
theorem fits_none {many : Int} {c : Nat} {rc : Rc} (I : RcI many c rc) {port : Int} {far : Nm} (h : rc.find? (fun p => decide (p.2.1 = port) && decide (far ∈ p.2.2.2.1)) = none) : fitsL port far rc = [] := by
  unfold fitsL
  rw [List.filter_eq_nil_iff]
  intro x hx h2
  cases e : lk x rc with
  | none => rw [e] at h2; cases h2
  | some u =>
    rw [e] at h2
    simp only [Bool.and_eq_true, decide_eq_true_eq] at h2
    have h3 := List.find?_eq_none.mp h _ (lk_some e)
    refine h3 ?_
    simp only [Bool.and_eq_true, decide_eq_true_eq]
    exact ⟨h2.1, (I.af _ (lk_some e) far).mpr h2.2⟩
theorem dat_keys {s : Sto} {l : List (Nm × Int)} (h : ∀ k ∈ l, k ∈ gk) : datOf s (.lst (l.map (eT kK))) = some (.lst (l.map (eT kK))) := by
  refine dat_w ?_ (by simp)
  simp only [dataW]
  refine dataL_all fun x hx => ?_
  obtain ⟨k, hk, rfl⟩ := List.mem_map.mp hx
  have := (gk_ok (h k hk)).1
  simp only [eT, kK, List.map_cons, List.map_nil, k1W, dataW, dataL, this, Bool.and_self]
theorem eqc_keys0 {s : Sto} {l : List (Nm × Int)} (h : ∀ k ∈ l, k ∈ gk) : eqC s (.lst (l.map (eT kK))) (.lst []) = some (decide (l = [])) := by
  rw [eqc_dat (dat_keys h) (y' := .lst []) (by simp [datOf, dataW, dataL])]
  cases l <;> simp [eqW, eqL]
theorem any_strsL {s : Sto} {t : Nm} (ht : t.all (fun c => decide (c < 1114112)) = true) {l : List Nm} (hl : ∀ x ∈ l, x.all (fun c => decide (c < 1114112)) = true) : inW s (.str t) (.lst (l.map .str)) = some (decide (t ∈ l)) := by
  have := any_strs (s := s) ht hl
  rw [in_tup] at this
  rw [in_lst]
  exact this
include hP
theorem gB {j : Nat} {s : Sto} {many time m : Int} {l : Lt} {h : Hd} {g rp fx rl c : Nat} {rc : Rc} {b : Bool} (I : RI s many time l h g rp fx rl c rc (alive time m rc) b) (hm : 1 ≤ many ∧ many ≤ 4) {k : Nm × Int} (hk : k ∈ gk) {to : Nm} (hto : to = [120] ∨ to = [121]) (hc : c ≤ 50) {o4 o5 o6 o7 o14 o15 o16 o17 o18 : Option W} {Q : KO}
    (q : ∀ s' rp' rc' o16 o17 o18, RI s' many time l h g rp' fx rl (c + 1) rc' rc' b → Q (.nx [some (.ref 0), some (.int many), some (.int time), some (.ref 1), o4, o5, o6, o7, some (.ref g), some (.ref rl), some (.int m), some (.bl b), some (.tup [.str k.1, .int k.2]), some (.str to), o14, o15, o16, o17, o18]) s') :
    Wo (exs P (tower P (j + 6)) none (gb.get 2).els [some (.ref 0), some (.int many), some (.int time), some (.ref 1), o4, o5, o6, o7, some (.ref g), some (.ref rl), some (.int m), some (.bl b), some (.tup [.str k.1, .int k.2]), some (.str to), o14, o15, o16, o17, o18]) s Q := by
  have htok : to.all (fun c => decide (c < 1114112)) = true := by rcases hto with rfl | rfl <;> decide
  obtain ⟨da, db, dk, hD⟩ := I.d
  simp only [gb, b20, Ss.get, S.body, S.els]
  rw [wxs_cons]
  dsimp? []
  refine roll_wp hP hD (by decide) (by decide) ?_
  intro r a' b' k' hr0 hr1
  have I := I.set0 a' b' k'
  generalize s.set 0 (.lst [.int a', .int b', .int k']) = s at I ⊢
  have I1 := I.I.alive time m
  have hr := I.r
  have l6 := I1.l6
  have hG := I.G
  generalize hrc : alive time m rc = rc1 at I I1 hr l6
  dsimp? []
  rw [wxs_cons]
  dsimp? [sortKeys hr l6]
  have fsl : (fitsL (50 + r) to rc1).length ≤ 6 := by
    unfold fitsL
    refine Nat.le_trans (List.length_filter_le _ _) ?_
    rw [sortG_len, List.length_map]; exact l6
  refine wp_comp (inj := eT kK) (p := fun k => match lk k rc1 with
    | some (p, _, _, fs) => decide (p = 50 + r) && decide (to ∈ fs)
    | none => false) (emb := eT kK) (g := fun k => k) (sortG kK unK (rc1.map (·.1))) (fitsL (50 + r) to rc1) rfl (by simp [fitsL]) ?_ rfl ?_
  · rintro ⟨x, i⟩ hx
    rw [sortG_mem (fun _ => rfl)] at hx
    cases e : lk (x, i) rc1 with
    | none => exact (lk_none.mp e hx).elim
    | some v =>
      obtain ⟨p, t, as, fs⟩ := v
      have hmem := lk_some e
      have hfs : ∀ x ∈ fs, x.all (fun c => decide (c < 1114112)) = true := fun x hx => I1.ok _ hmem x ((I1.af _ hmem x).mpr hx)
      by_cases c1 : p = 50 + r
      · by_cases c2 : to ∈ fs
        · push_cast [eT, kK, k1W, hr, e, eRl, c1, c2, any_strsL htok hfs]
        · push_cast [eT, kK, k1W, hr, e, eRl, c1, c2, any_strsL htok hfs]
      · push_cast [eT, kK, k1W, hr, e, eRl, c1]
  have hfg : ∀ k ∈ fitsL (50 + r) to rc1, k ∈ gk := by
    intro k hk
    unfold fitsL at hk
    have := (List.mem_filter.mp hk).1
    rw [sortG_mem (fun _ => rfl)] at this
    exact I1.ks _ this
  dsimp? []
  refine ⟨le_line (by rw [List.length_map]; omega), ?_⟩
  rw [wxs_cons]
  dsimp? [dr2]
  refine told_wp hP ?_
  dsimp? [hP.all, hG.a]
  refine come_wp hP hG I.I.l6 I.I.kn htok I.I.ok (by omega) ?_
  intro s' rp' rr x fr hp hres
  rw [hrc] at hres
  have fr' : ∀ k, k ≠ g → k ≠ fx → k < s.nxt → s'.get k = s.get k := fun k z1 z2 z3 => fr k z1 z3
  have hr' := (fr rl I.n1 I.ln).trans hr
  unfold comeP at hres
  cases e : rc1.find? (fun p => decide (p.2.1 = 50 + r) && decide (to ∈ p.2.2.2.1)) with
  | none =>
    rw [e] at hres
    obtain ⟨rfl, G'⟩ := hres
    have ef := fits_none I1 e
    rw [ef]
    dsimp? [told_er, toldS]
    rw [wxs_cons]
    dsimp? []
    exact q s' rp' rc1 _ _ _ (I.gate x fr' hp G' (I1.mono (by omega)))
  | some v =>
    obtain ⟨k2, p, t, as, fs⟩ := v
    rw [e] at hres
    obtain ⟨rfl, G'⟩ := hres
    have ef := fits_some I1 e
    have hmem := List.mem_of_find?_eq_some e
    have hp2 := List.find?_some e
    simp only [Bool.and_eq_true, decide_eq_true_eq] at hp2
    obtain ⟨rfl, hp3⟩ := hp2
    have elk := lk_of I1.kn hmem
    obtain ⟨x2, i2⟩ := k2
    have hx2 := (gk_ok (I1.ks _ (List.mem_map.mpr ⟨_, hmem, rfl⟩))).1
    have e0 : eqC s' (.lst ([(x2, i2)].map (eT kK))) (.lst []) = some false := by
      rw [eqc_keys0 (fun k hk => by rw [ef] at hfg; exact hfg k hk)]; rfl
    simp only [List.map_cons, List.map_nil, eT, kK, k1W] at e0
    rw [ef]
    dsimp? [told_ok, eT, kK, k1W, e0, eqc_key hx2 hx2]
    rw [wxs_cons]
    dsimp? [e0]
    rw [wxs_cons]
    dsimp? [hr', elk, eRl, encD_len, putRl as]
    refine ⟨lt_line (by omega), ?_⟩
    refine q _ rp' (Mn.pt (x2, i2) (50 + r, m, as, fs) rc1) _ _ _ (RI.rows (I.gate x fr' hp G' ?_))
    have hal := I1.al _ hmem
    have hfl := I1.fl _ hmem
    simp only at hal hfl
    refine I1.pt (I1.ks _ (List.mem_map.mpr ⟨_, hmem, rfl⟩)) (I1.pr _ hmem) (fun z hz hne he => ?_) (I1.af _ hmem) (I1.ax _ hmem) (by omega) (by omega)
    have := I1.pu _ hz _ hmem he
    rw [this] at hne
    exact hne rfl
end L

end

section
set_option Elab.async false
set_option linter.all false
set_option maxRecDepth 100000
set_option maxHeartbeats 4000000
namespace L
open Mn
local macro_rules | `(tactic| push_cast [$as,*]) => `(tactic| simp only [↓wv_cst, ↓wv_var, ↓wv_bin, ↓wv_neg, ↓wv_cmp, ↓wv_chn, ↓wv_isN, ↓wv_and, ↓wv_or, ↓wv_not, ↓wv_ite, ↓wv_tup, ↓wv_lst, ↓wv_dct0, ↓wv_fld, ↓wv_idx, ↓wv_slc, ↓wv_call, ↓wv_new, ↓wv_meth, ↓wv_bi, ↓wv_bm, ↓wv_comp, ↓wc_compG, ↓wv_lkd, ↓wv_inV, ↓wv_litems, ↓wv_dget, ↓wv_lam, ↓wv_thk, ↓ws_nil, ↓ws_cons, ↓wt_nil, ↓wt_cons, ↓wq_no, ↓wq_so, ↓wi_seq, ↓wi_rng1, ↓wi_rng2, ↓wi_enum, ↓wi_keys, ↓wi_vals, ↓wi_items, ↓wg_var, ↓wg_tup, ↓wg_sub, ↓wg_fld, ↓wgs_nil, ↓wgs_cons, ↓wx_expr, ↓wx_asg, ↓wx_aug, ↓wx_augF, ↓wx_augS, ↓wx_ret, ↓wx_ret0, ↓wx_iff, ↓wx_forr, ↓wx_forB, ↓wx_whil, ↓wx_whilT, ↓wx_whilB, ↓wx_tryy, ↓wx_del, ↓wo_delM, ↓wx_rais, ↓wx_brk, ↓wx_cnt, ↓wx_pass, ↓wx_lkd, ↓wxs_nil, ↓wxs_cons, ↓wp_ret, ↓wp_bind, ↓wp_of, ↓wp_ofs, ↓wp_op, ↓wp_calm, ↓wp_get, ↓wp_no, ↓wo_toO, ↓wo_seq, ↓wo_end, ↓wp_make, ↓bindK_ok, ↓bindK_er, ↓toOK_ok, ↓toOK_er, ↓seqK_nx, ↓seqK_rt, ↓seqK_bk, ↓seqK_ct, ↓seqK_ex, ↓calmK_ok, ↓retK_nx, ↓retK_rt, ↓retK_rtf, ↓retK_ex, ↓makeK_non, ↓makeK_nonf, ↓makeK_er, ↓tryK_ex, ↓tryK_nx, ↓tryK_rt, ↓tryK_bk, ↓tryK_ct, ↓ifK_t, ↓ifK_f, ↓turnK_nx, ↓turnK_ct, ↓turnK_bk, ↓turnK_rt, ↓turnK_ex, ↓whilK_nx, ↓whilK_ct, ↓whilK_bk, ↓whilK_rt, ↓whilK_ex, w1_some, w1_of, w1_ret, w1_ite, kcW, setE, wipeE, tgSlots, tgsSlots, List.getElem?_cons_zero, List.getElem?_cons_succ, Option.join_some, List.set_cons_zero, List.set_cons_succ, List.append_eq, b2_addI, b2_subI, b2_mulI, b2_fdivI, b2_mdI, b2_powI, b2_addT, b2_addS, b2_addL, c2_eq, c2_ne, c2_lt, c2_le, c2_gt, c2_ge, c2_in, c2_nin, Option.map_some, Option.bind_some, eqc_ii, eqc_ss, eqc_ints, eqc_intsT, eqc_ints0, eqc_intsT0, eqc_nilL, eqc_nilT, eqc_bb, eqc_is, eqc_si, eqc_ns, eqc_sn, eqc_nn, eqc_ni, eqc_in, List.all_cons, List.all_nil, tru_b, tru_i, mtru, biW_int, biW_intb, biW_abs, biW_min2, biW_max2, List.map_cons, List.map_nil, List.length_cons, List.length_nil, List.cons_append, List.nil_append, List.replicate_succ, List.replicate_zero, decide_true, decide_false, decide_eq_true_eq, if_true, if_false, ite_true, ite_false, Bool.not_true, Bool.not_false, reduceIte, and_true, true_and, false_and, and_false, ne_eq, not_true_eq_false, not_false_eq_true, Nat.zero_add, Bool.false_eq_true, reduceCtorEq, decide_not, Nat.sub_zero, eq_self, and_self, valsV_enc, keysV_enc, itemsV_enc, Nat.add_one_sub_one, smallI_eq, smallR_eq, seqOf, lstOf, forall_const, Bool.and_true, Bool.true_and, Bool.or_true, Bool.true_or, Bool.or_false, Bool.false_or, Bool.or_eq_true, Bool.and_eq_true, seval, idx_ref, idxR_lst, idxR_dct, idx_lst, idx_tup, idx_str, idx_dct, atI_0, atI_1, atI_2, atI_3, fld_ref, fldR_ins, getF_cons, getF_nil, putF_cons, putF_nil, stF_ref, stFR_ins, meth_ref, methR_ins, stS_ref, stSR_lst, stSR_dct, toKy_i, toKy_s, toKy_si, toKy_ss, toKy_ii, in_ref, inR_dct, inV_ref, in_ints, in_intsT, del_ref, dctOf_ref, dctR_dct, get2_eq, get2R_some, Option.getD_some, Option.getD_none, delR_S, delR_I, wd_some, leLine_t, ltLine_t, vw_ref, vwR_dct, unlkR, lockK_r, lockO_rt, lockO_nx, slc_lst, slc_tup, slc_str, cutL_1, len_lst, len_tup, len_str, tuple_lst, tuple_tup, list_tup, list_lst, mkL_f, mkL_t, dict_lst, listd_eq, listdR_some, src_lst, src_tup, src_str, src_ref, set_get, new_get, set_nxt, new_nxt, set_set, getK_S, getK_I, getK_SI, getK_SS, kyOk_S, kyOk_I, kyOk_SI, kyOk_SS, delK_S, delK_I, kyW_S, kyW_I, kyW_SI, kyW_SS, Option.isSome_map, Option.isSome_none, Option.isSome_some, Option.map_none, Option.bind_none, inVR_enc, List.append_nil, $as,*])
local macro_rules | `(tactic| simp? [$as,*]) => `(tactic| simp only [↓wv_cst, ↓wv_var, ↓wv_bin, ↓wv_neg, ↓wv_cmp, ↓wv_chn, ↓wv_isN, ↓wv_and, ↓wv_or, ↓wv_not, ↓wv_ite, ↓wv_tup, ↓wv_lst, ↓wv_dct0, ↓wv_fld, ↓wv_idx, ↓wv_slc, ↓wv_call, ↓wv_new, ↓wv_meth, ↓wv_bi, ↓wv_bm, ↓wv_comp, ↓wc_compG, ↓wv_lkd, ↓wv_inV, ↓wv_litems, ↓wv_dget, ↓wv_lam, ↓wv_thk, ↓ws_nil, ↓ws_cons, ↓wt_nil, ↓wt_cons, ↓wq_no, ↓wq_so, ↓wi_seq, ↓wi_rng1, ↓wi_rng2, ↓wi_enum, ↓wi_keys, ↓wi_vals, ↓wi_items, ↓wg_var, ↓wg_tup, ↓wg_sub, ↓wg_fld, ↓wgs_nil, ↓wgs_cons, ↓wx_expr, ↓wx_asg, ↓wx_aug, ↓wx_augF, ↓wx_augS, ↓wx_ret, ↓wx_ret0, ↓wx_iff, ↓wx_forr, ↓wx_forB, ↓wx_whil, ↓wx_whilT, ↓wx_whilB, ↓wx_tryy, ↓wx_del, ↓wo_delM, ↓wx_rais, ↓wx_brk, ↓wx_cnt, ↓wx_pass, ↓wx_lkd, ↓wxs_nil, ↓wxs_cons, ↓wp_ret, ↓wp_bind, ↓wp_of, ↓wp_ofs, ↓wp_op, ↓wp_calm, ↓wp_get, ↓wp_no, ↓wo_toO, ↓wo_seq, ↓wo_end, ↓wp_make, ↓bindK_ok, ↓bindK_er, ↓toOK_ok, ↓toOK_er, ↓seqK_rt, ↓seqK_bk, ↓seqK_ct, ↓seqK_ex, ↓calmK_ok, ↓retK_nx, ↓retK_rt, ↓retK_rtf, ↓retK_ex, ↓makeK_non, ↓makeK_nonf, ↓makeK_er, ↓tryK_ex, ↓tryK_nx, ↓tryK_rt, ↓tryK_bk, ↓tryK_ct, ↓ifK_t, ↓ifK_f, ↓turnK_nx, ↓turnK_ct, ↓turnK_bk, ↓turnK_rt, ↓turnK_ex, ↓whilK_nx, ↓whilK_ct, ↓whilK_bk, ↓whilK_rt, ↓whilK_ex, w1_some, w1_of, w1_ret, w1_ite, kcW, setE, wipeE, tgSlots, tgsSlots, List.getElem?_cons_zero, List.getElem?_cons_succ, Option.join_some, List.set_cons_zero, List.set_cons_succ, List.append_eq, b2_addI, b2_subI, b2_mulI, b2_fdivI, b2_mdI, b2_powI, b2_addT, b2_addS, b2_addL, c2_eq, c2_ne, c2_lt, c2_le, c2_gt, c2_ge, c2_in, c2_nin, Option.map_some, Option.bind_some, eqc_ii, eqc_ss, eqc_ints, eqc_intsT, eqc_ints0, eqc_intsT0, eqc_nilL, eqc_nilT, eqc_bb, eqc_is, eqc_si, eqc_ns, eqc_sn, eqc_nn, eqc_ni, eqc_in, List.all_cons, List.all_nil, tru_b, tru_i, mtru, biW_int, biW_intb, biW_abs, biW_min2, biW_max2, List.map_cons, List.map_nil, List.length_cons, List.length_nil, List.cons_append, List.nil_append, List.replicate_succ, List.replicate_zero, decide_true, decide_false, decide_eq_true_eq, if_true, if_false, ite_true, ite_false, Bool.not_true, Bool.not_false, reduceIte, and_true, true_and, false_and, and_false, ne_eq, not_true_eq_false, not_false_eq_true, Nat.zero_add, Bool.false_eq_true, reduceCtorEq, decide_not, Nat.sub_zero, eq_self, and_self, valsV_enc, keysV_enc, itemsV_enc, Nat.add_one_sub_one, smallI_eq, smallR_eq, seqOf, lstOf, forall_const, Bool.and_true, Bool.true_and, Bool.or_true, Bool.true_or, Bool.or_false, Bool.false_or, Bool.or_eq_true, Bool.and_eq_true, seval, idx_ref, idxR_lst, idxR_dct, idx_lst, idx_tup, idx_str, idx_dct, atI_0, atI_1, atI_2, atI_3, fld_ref, fldR_ins, getF_cons, getF_nil, putF_cons, putF_nil, stF_ref, stFR_ins, meth_ref, methR_ins, stS_ref, stSR_lst, stSR_dct, toKy_i, toKy_s, toKy_si, toKy_ss, toKy_ii, in_ref, inR_dct, inV_ref, in_ints, in_intsT, del_ref, dctOf_ref, dctR_dct, get2_eq, get2R_some, Option.getD_some, Option.getD_none, delR_S, delR_I, wd_some, leLine_t, ltLine_t, vw_ref, vwR_dct, unlkR, lockK_r, lockO_rt, lockO_nx, slc_lst, slc_tup, slc_str, cutL_1, len_lst, len_tup, len_str, tuple_lst, tuple_tup, list_tup, list_lst, mkL_f, mkL_t, dict_lst, listd_eq, listdR_some, src_lst, src_tup, src_str, src_ref, set_get, new_get, set_nxt, new_nxt, set_set, getK_S, getK_I, getK_SI, getK_SS, kyOk_S, kyOk_I, kyOk_SI, kyOk_SS, delK_S, delK_I, kyW_S, kyW_I, kyW_SI, kyW_SS, Option.isSome_map, Option.isSome_none, Option.isSome_some, Option.map_none, Option.bind_none, inVR_enc, List.append_nil, $as,*])
local macro_rules | `(tactic| dsimp? [$as,*]) => `(tactic| simp only [↓wv_cst, ↓wv_var, ↓wv_bin, ↓wv_neg, ↓wv_cmp, ↓wv_chn, ↓wv_isN, ↓wv_and, ↓wv_or, ↓wv_not, ↓wv_ite, ↓wv_tup, ↓wv_lst, ↓wv_dct0, ↓wv_fld, ↓wv_idx, ↓wv_slc, ↓wv_call, ↓wv_new, ↓wv_meth, ↓wv_bi, ↓wv_bm, ↓wv_comp, ↓wc_compG, ↓wv_lkd, ↓wv_inV, ↓wv_litems, ↓wv_dget, ↓wv_lam, ↓wv_thk, ↓ws_nil, ↓ws_cons, ↓wt_nil, ↓wt_cons, ↓wq_no, ↓wq_so, ↓wi_seq, ↓wi_rng1, ↓wi_rng2, ↓wi_enum, ↓wi_keys, ↓wi_vals, ↓wi_items, ↓wg_var, ↓wg_tup, ↓wg_sub, ↓wg_fld, ↓wgs_nil, ↓wgs_cons, ↓wx_expr, ↓wx_asg, ↓wx_aug, ↓wx_augF, ↓wx_augS, ↓wx_ret, ↓wx_ret0, ↓wx_iff, ↓wx_forr, ↓wx_forB, ↓wx_whil, ↓wx_whilT, ↓wx_whilB, ↓wx_tryy, ↓wx_del, ↓wo_delM, ↓wx_rais, ↓wx_brk, ↓wx_cnt, ↓wx_pass, ↓wx_lkd, ↓wxs_nil, ↓wp_ret, ↓wp_bind, ↓wp_of, ↓wp_ofs, ↓wp_op, ↓wp_calm, ↓wp_get, ↓wp_no, ↓wo_toO, ↓wo_seq, ↓wo_end, ↓wp_make, ↓bindK_ok, ↓bindK_er, ↓toOK_ok, ↓toOK_er, ↓seqK_nx, ↓seqK_rt, ↓seqK_bk, ↓seqK_ct, ↓seqK_ex, ↓calmK_ok, ↓retK_nx, ↓retK_rt, ↓retK_rtf, ↓retK_ex, ↓makeK_non, ↓makeK_nonf, ↓makeK_er, ↓tryK_ex, ↓tryK_nx, ↓tryK_rt, ↓tryK_bk, ↓tryK_ct, ↓ifK_t, ↓ifK_f, ↓turnK_nx, ↓turnK_ct, ↓turnK_bk, ↓turnK_rt, ↓turnK_ex, ↓whilK_nx, ↓whilK_ct, ↓whilK_bk, ↓whilK_rt, ↓whilK_ex, w1_some, w1_of, w1_ret, w1_ite, kcW, setE, wipeE, tgSlots, tgsSlots, List.getElem?_cons_zero, List.getElem?_cons_succ, Option.join_some, List.set_cons_zero, List.set_cons_succ, List.append_eq, b2_addI, b2_subI, b2_mulI, b2_fdivI, b2_mdI, b2_powI, b2_addT, b2_addS, b2_addL, c2_eq, c2_ne, c2_lt, c2_le, c2_gt, c2_ge, c2_in, c2_nin, Option.map_some, Option.bind_some, eqc_ii, eqc_ss, eqc_ints, eqc_intsT, eqc_ints0, eqc_intsT0, eqc_nilL, eqc_nilT, eqc_bb, eqc_is, eqc_si, eqc_ns, eqc_sn, eqc_nn, eqc_ni, eqc_in, List.all_cons, List.all_nil, tru_b, tru_i, mtru, biW_int, biW_intb, biW_abs, biW_min2, biW_max2, List.map_cons, List.map_nil, List.length_cons, List.length_nil, List.cons_append, List.nil_append, List.replicate_succ, List.replicate_zero, decide_true, decide_false, decide_eq_true_eq, if_true, if_false, ite_true, ite_false, Bool.not_true, Bool.not_false, reduceIte, and_true, true_and, false_and, and_false, ne_eq, not_true_eq_false, not_false_eq_true, Nat.zero_add, Bool.false_eq_true, reduceCtorEq, decide_not, Nat.sub_zero, eq_self, and_self, valsV_enc, keysV_enc, itemsV_enc, Nat.add_one_sub_one, smallI_eq, smallR_eq, seqOf, lstOf, forall_const, Bool.and_true, Bool.true_and, Bool.or_true, Bool.true_or, Bool.or_false, Bool.false_or, Bool.or_eq_true, Bool.and_eq_true, seval, idx_ref, idxR_lst, idxR_dct, idx_lst, idx_tup, idx_str, idx_dct, atI_0, atI_1, atI_2, atI_3, fld_ref, fldR_ins, getF_cons, getF_nil, putF_cons, putF_nil, stF_ref, stFR_ins, meth_ref, methR_ins, stS_ref, stSR_lst, stSR_dct, toKy_i, toKy_s, toKy_si, toKy_ss, toKy_ii, in_ref, inR_dct, inV_ref, in_ints, in_intsT, del_ref, dctOf_ref, dctR_dct, get2_eq, get2R_some, Option.getD_some, Option.getD_none, delR_S, delR_I, wd_some, leLine_t, ltLine_t, vw_ref, vwR_dct, unlkR, lockK_r, lockO_rt, lockO_nx, slc_lst, slc_tup, slc_str, cutL_1, len_lst, len_tup, len_str, tuple_lst, tuple_tup, list_tup, list_lst, mkL_f, mkL_t, dict_lst, listd_eq, listdR_some, src_lst, src_tup, src_str, src_ref, set_get, new_get, set_nxt, new_nxt, set_set, getK_S, getK_I, getK_SI, getK_SS, kyOk_S, kyOk_I, kyOk_SI, kyOk_SS, delK_S, delK_I, kyW_S, kyW_I, kyW_SI, kyW_SS, Option.isSome_map, Option.isSome_none, Option.isSome_some, Option.map_none, Option.bind_none, inVR_enc, List.append_nil, $as,*])
variable {P : Pg} (hP : PgF P)
def web : Nm := [119, 101, 98]
theorem ab2 {r : Int} (h0 : 0 ≤ r) (h1 : r < 2) : ∃ c, L2.atI [97, 98] r = some c ∧ (c = 97 ∨ c = 98) := by
  have : r = 0 ∨ r = 1 := by omega
  rcases this with rfl | rfl
  · exact ⟨_, rfl, .inl rfl⟩
  · exact ⟨_, rfl, .inr rfl⟩
theorem xy2 {r : Int} (h0 : 0 ≤ r) (h1 : r < 2) : ∃ c, L2.atI [120, 121] r = some c ∧ ([c] = [120] ∨ [c] = [121]) := by
  have : r = 0 ∨ r = 1 := by omega
  rcases this with rfl | rfl
  · exact ⟨_, rfl, .inl rfl⟩
  · exact ⟨_, rfl, .inr rfl⟩
theorem gk_mem {c : Nat} (hc : c = 97 ∨ c = 98) {r : Int} (h0 : 0 ≤ r) (h1 : r < 3) : ([c], 1 + r) ∈ gk := by
  have : r = 0 ∨ r = 1 ∨ r = 2 := by omega
  rcases hc with rfl | rfl <;> rcases this with rfl | rfl | rfl <;> decide
include hP
theorem gturn {j : Nat} {s : Sto} {many time m : Int} {l : Lt} {h : Hd} {g rp fx rl c : Nat} {rc : Rc} {b : Bool} (I : RI s many time l h g rp fx rl c rc rc b) (hm : 1 ≤ many ∧ many ≤ 4) (hc : c ≤ 50) {o4 o5 o6 o7 o12 o13 o14 o15 o16 o17 o18 : Option W} {x : W} {Q : KO}
    (q : ∀ s' rp' rl' rc' m' o4 o12 o13 o14 o15 o16 o17 o18, m ≤ m' → RI s' many time l h g rp' fx rl' (c + 1) rc' rc' b → Q (.nx [some (.ref 0), some (.int many), some (.int time), some (.ref 1), o4, o5, o6, o7, some (.ref g), some (.ref rl'), some (.int m'), some (.bl b), o12, o13, o14, o15, o16, o17, o18]) s') :
    Wo (forB P (tower P (j + 6)) none (.var 4) gb x [some (.ref 0), some (.int many), some (.int time), some (.ref 1), o4, o5, o6, o7, some (.ref g), some (.ref rl), some (.int m), some (.bl b), o12, o13, o14, o15, o16, o17, o18]) s Q := by
  have step (r : Int) (s : Sto) (rl : Nat) (m' : Int) (hmm : m ≤ m') (k : Nm × Int) (hk : k ∈ gk) (to : Nm) (hto : to = [120] ∨ to = [121]) (I : RI s many time l h g rp fx rl c rc (alive time m' rc) b) : Wo (exs P (tower P (j + 6)) none (Ss.drop 2 gb) [some (.ref 0), some (.int many), some (.int time), some (.ref 1), some x, o5, o6, o7, some (.ref g), some (.ref rl), some (.int m'), some (.bl b), some (.tup [.str k.1, .int k.2]), some (.str to), o14, o15, o16, o17, o18]) s Q := by
    have gA' := fun Q => @gA P hP j s many time m' l h g rp fx rl c rc b I hm k hk to hto hc (some x) o5 o6 o7 o14 o15 o16 o17 o18 Q
    obtain ⟨da, db, dk, hD⟩ := I.d
    simp only [gb, b20, Ss.get, S.body, Ss.drop]
    rw [wxs_cons]
    dsimp? []
    refine roll_wp hP hD (by decide) (by decide) ?_
    intro r a' b' k' hr0 hr1
    have I := I.set0 a' b' k'
    generalize s.set 0 (.lst [.int a', .int b', .int k']) = s at I ⊢
    by_cases c0 : 0 < r
    · dsimp? [c0]
      refine gA hP I hm hk hto hc ?_
      intro s' rp' rc' p14 p15 p16 p18 I'
      dsimp? []
      exact q s' rp' rl rc' m' _ _ _ _ _ _ _ _ hmm I'
    · dsimp? [c0]
      refine gB hP I hm hk hto hc ?_
      intro s' rp' rc' p16 p17 p18 I'
      dsimp? []
      exact q s' rp' rl rc' m' _ _ _ _ _ _ _ _ hmm I'
  rw [wx_forB]
  dsimp? []
  simp only [gb, b20, Ss.get, S.body]
  rw [wxs_cons]
  dsimp? []
  obtain ⟨da, db, dk, hD⟩ := I.d
  refine roll_wp hP hD (by decide) (by decide) ?_
  intro r1 a1 b1 k1 hr10 hr11
  have I := I.set0 a1 b1 k1
  generalize s.set 0 (.lst [.int a1, .int b1, .int k1]) = s at I ⊢
  dsimp? []
  obtain ⟨da, db, dk, hD⟩ := I.d
  refine roll_wp hP hD (by decide) (by decide) ?_
  intro r2 a2 b2 k2 hr20 hr21
  have I := I.set0 a2 b2 k2
  generalize s.set 0 (.lst [.int a2, .int b2, .int k2]) = s at I ⊢
  obtain ⟨c1, hc1, hc1'⟩ := ab2 hr20 hr21
  dsimp? [hc1]
  obtain ⟨da, db, dk, hD⟩ := I.d
  refine roll_wp hP hD (by decide) (by decide) ?_
  intro r3 a3 b3 k3 hr30 hr31
  have I := I.set0 a3 b3 k3
  generalize s.set 0 (.lst [.int a3, .int b3, .int k3]) = s at I ⊢
  dsimp? []
  obtain ⟨da, db, dk, hD⟩ := I.d
  refine roll_wp hP hD (by decide) (by decide) ?_
  intro r4 a4 b4 k4 hr40 hr41
  have I := I.set0 a4 b4 k4
  generalize s.set 0 (.lst [.int a4, .int b4, .int k4]) = s at I ⊢
  obtain ⟨c2, hc2, hc2'⟩ := xy2 hr40 hr41
  dsimp? [hc2]
  have hr := I.r
  have kn := I.I.kn
  have l6 := I.I.l6
  rw [wxs_cons]
  dsimp? []
  rw [wp_lock (n := rl) (kvs := encD eSI eRl rc) (by simp [lkN, hr])]
  dsimp? []
  refine wp_comp (inj := fun p : (Nm × Int) × Rv => .tup [.str p.1.1, .int p.1.2]) (p := fun p => decide (m + r1 - p.2.2.1 < time)) (emb := fun p : (Nm × Int) × Rv => .tup [.tup [.str p.1.1, .int p.1.2], eRl p.2]) (g := fun p => p) rc (alive time (m + r1) rc) rfl (by simp [alive]) ?_ (by simp [set_get, beqD_self]) ?_
  · rintro ⟨⟨x, i⟩, p, t, as, fs⟩ hx
    by_cases c : m + r1 - t < time
    · push_cast [idxR_dctT (encD_ne hx), lk_of kn hx, eRl, c]
    · push_cast [idxR_dctT (encD_ne hx), lk_of kn hx, eRl, c]
  have dl : (alive time (m + r1) rc).length ≤ 6 := Nat.le_trans (List.length_filter_le _ _) l6
  have ps : pairsOf ((alive time (m + r1) rc).map fun p => .tup [.tup [.str p.1.1, .int p.1.2], eRl p.2]) = some (encD eSI eRl (alive time (m + r1) rc)) := pairs_enc (ke := eSI) eSI_inj (fun _ => rfl) (.inr fun _ => rfl) (nodup_filter kn)
  dsimp? [set_self hr, ps, encD_len]
  refine ⟨le_line (by rw [List.length_map]; omega), le_line (by omega), ?_⟩
  exact step 0 _ _ (m + r1) (by omega) ([c1], 1 + r3) (gk_mem hc1' hr30 hr31) [c2] hc2' I.newRows
theorem asks_wp {j : Nat} {s : Sto} {a u : Int} {Q : KM W} (q : if u ≤ a then Q (.error ⟨3, none⟩) s else Q (.ok (.tup [.int (a + (u - a) / 2), .int (a + (u - a) * 7 / 8)])) s) : Wp (atT (tower P (j + 1)) 0 7 [.int a, .int u] none) s Q := by
  rw [at0, wp_run hP.n7 rfl]
  by_cases c : u ≤ a
  · rw [if_pos c] at q
    push_cast [f7, b7, c, hP.all]
    exact q
  · rw [if_neg c] at q
    push_cast [f7, b7, c]
    exact q
theorem come90 {j : Nat} {s : Sto} {g rp fx : Nat} {many time m : Int} {rc : Rc} {far : Nm} {Q : KM W} (G : Gt s g rp fx many time rc (fixL true)) (q : Q (.ok (.tup [.str web, .int 80])) s) : Wp (atT (tower P (j + 1)) 0 11 [.ref g, .int 90, .str far, .int m] none) s Q := by
  have ha := G.a; have hc := G.c
  have e0 : lk (90 : Int) (fixL true) = some (web, 80) := rfl
  rw [at0, wp_run hP.n11 rfl]
  push_cast [f11, b11, hP.all, ha, hc, e0, eF]
  exact q
theorem out90 {j : Nat} {s : Sto} {g rp fx : Nat} {many time m : Int} {rc : Rc} {far : Nm} {Q : KM W} (G : Gt s g rp fx many time rc (fixL true)) (q : Q (.ok (.int 90)) s) : Wp (atT (tower P (j + 1)) 0 10 [.ref g, .str web, .int 80, .str far, .int m] none) s Q := by
  have ha := G.a; have hb := G.b; have hc := G.c
  have n2 := G.n2
  rw [at0, wp_run hP.n10 rfl]
  simp only [f10, b10]
  rw [wxs_cons]
  dsimp? []
  rw [wo_lock (n := fx) (kvs := encD eI eF (fixL true)) (by simp [lkN, insOf, getF, ha, hc])]
  have kk : web.all (fun c => decide (c < 1114112)) = true := by decide
  have e6 : itemsV (encD eI eF (fixL true)) = [.tup [.int 90, .tup [.str web, .int 80]]] := rfl
  push_cast [hP.all, ha, n2, -itemsV_enc, e6, turns_cons, eqc_key kk kk, set_self hc]
  exact q
theorem cases_wp {j : Nat} {s : Sto} {Q : KM W} (q : Q (.ok (.bl true)) ((s.new (.ins 10 [])).new (.ins 11 []))) : Wp (atT (tower P (j + 6)) 0 18 [] none) s Q := by
  rw [at0, wp_run hP.n18 rfl]
  simp only [f18, b18]
  rw [wxs_cons]
  dsimp? [dr2]
  refine told_wp hP ?_
  dsimp? [hP.all, at1]
  rw [wp_run hP.n0 rfl]
  push_cast [f0, b0, hP.all, told_er, toldS, dr2]
  refine told_wp hP ?_
  push_cast [hP.all, at1]
  rw [wp_run hP.n8 rfl]
  push_cast [f8, b8, hP.all, told_er, toldS]
  exact q
theorem wrong_wp {j : Nat} {s : Sto} {many time : Int} {l : Lt} {h : Hd} {Q : KM W} (H : Ln s many time l h) (hm : 1 ≤ many ∧ many ≤ 4) (hl : l.length ≤ 5) (hh : h.length ≤ 5) (sl : ∀ x ∈ l.map (·.1), x ∈ nms) (q : Q (.ok (.bl true)) s) : Wp (atT (tower P (j + 6)) 0 19 [.ref 1] none) s Q := by
  rw [at0, wp_run hP.n19 rfl]
  simp only [f19, b19]
  rw [wxs_cons]
  dsimp? [dr2]
  refine told_wp hP ?_
  dsimp? []
  refine asks_wp hP ?_
  rw [if_pos (by omega)]
  dsimp? [told_er, toldS]
  rw [wxs_cons]
  dsimp? [dr2]
  refine told_wp hP ?_
  dsimp? [hP.all, H.a]
  refine take_wp hP H hm hl hh ?_
  have e0 : lk ([122, 101, 100] : Nm) l = none := lk_none.mpr fun z => absurd (sl _ z) (by decide)
  have em : mineW l [122, 101, 100] 0 = .non := by simp [mineW, e0]
  cases e : offerL many l h [122, 101, 100] 0 with
  | none =>
    have e5 : inW s (.str tNo) (.lst [.str [114, 101, 102, 117, 115, 101, 100], .str [110, 111, 32, 115, 117, 99, 104]]) = some true := by
      have hh : tNo.all (fun c => decide (c < 1114112)) = true := by decide
      rw [in_lst, dat_s hh]
      decide +kernel
    push_cast [told_er, toldS, e5]
    exact q
  | some a =>
    rw [offer_not em] at e
    have := dueN_mem (fun x hx => (List.mem_filter.mp hx).1) e
    unfold freeL at this
    have := (List.mem_filter.mp this).1
    rw [mem_rangeI] at this
    have e6 : ¬ (5 : Int) = a := by omega
    have e5 : inW s (.str [114, 101, 102, 117, 115, 101, 100]) (.lst [.str [114, 101, 102, 117, 115, 101, 100], .str [110, 111, 32, 115, 117, 99, 104]]) = some true := by
      have hh : ([114, 101, 102, 117, 115, 101, 100] : Nm).all (fun c => decide (c < 1114112)) = true := by decide
      rw [in_lst, dat_s hh]
      decide +kernel
    simp only [e6, if_false]
    push_cast [told_er, toldS, e5]
    exact q
end L

end

section
set_option Elab.async false
set_option linter.all false
set_option maxRecDepth 100000
set_option maxHeartbeats 4000000
namespace L
open Mn
local macro_rules | `(tactic| push_cast [$as,*]) => `(tactic| simp only [↓wv_cst, ↓wv_var, ↓wv_bin, ↓wv_neg, ↓wv_cmp, ↓wv_chn, ↓wv_isN, ↓wv_and, ↓wv_or, ↓wv_not, ↓wv_ite, ↓wv_tup, ↓wv_lst, ↓wv_dct0, ↓wv_fld, ↓wv_idx, ↓wv_slc, ↓wv_call, ↓wv_new, ↓wv_meth, ↓wv_bi, ↓wv_bm, ↓wv_comp, ↓wc_compG, ↓wv_lkd, ↓wv_inV, ↓wv_litems, ↓wv_dget, ↓wv_lam, ↓wv_thk, ↓ws_nil, ↓ws_cons, ↓wt_nil, ↓wt_cons, ↓wq_no, ↓wq_so, ↓wi_seq, ↓wi_rng1, ↓wi_rng2, ↓wi_enum, ↓wi_keys, ↓wi_vals, ↓wi_items, ↓wg_var, ↓wg_tup, ↓wg_sub, ↓wg_fld, ↓wgs_nil, ↓wgs_cons, ↓wx_expr, ↓wx_asg, ↓wx_aug, ↓wx_augF, ↓wx_augS, ↓wx_ret, ↓wx_ret0, ↓wx_iff, ↓wx_forr, ↓wx_forB, ↓wx_whil, ↓wx_whilT, ↓wx_whilB, ↓wx_tryy, ↓wx_del, ↓wo_delM, ↓wx_rais, ↓wx_brk, ↓wx_cnt, ↓wx_pass, ↓wx_lkd, ↓wxs_nil, ↓wxs_cons, ↓wp_ret, ↓wp_bind, ↓wp_of, ↓wp_ofs, ↓wp_op, ↓wp_calm, ↓wp_get, ↓wp_no, ↓wo_toO, ↓wo_seq, ↓wo_end, ↓wp_make, ↓bindK_ok, ↓bindK_er, ↓toOK_ok, ↓toOK_er, ↓seqK_nx, ↓seqK_rt, ↓seqK_bk, ↓seqK_ct, ↓seqK_ex, ↓calmK_ok, ↓retK_nx, ↓retK_rt, ↓retK_rtf, ↓retK_ex, ↓makeK_non, ↓makeK_nonf, ↓makeK_er, ↓tryK_ex, ↓tryK_nx, ↓tryK_rt, ↓tryK_bk, ↓tryK_ct, ↓ifK_t, ↓ifK_f, ↓turnK_nx, ↓turnK_ct, ↓turnK_bk, ↓turnK_rt, ↓turnK_ex, ↓whilK_nx, ↓whilK_ct, ↓whilK_bk, ↓whilK_rt, ↓whilK_ex, w1_some, w1_of, w1_ret, w1_ite, kcW, setE, wipeE, tgSlots, tgsSlots, List.getElem?_cons_zero, List.getElem?_cons_succ, Option.join_some, List.set_cons_zero, List.set_cons_succ, List.append_eq, b2_addI, b2_subI, b2_mulI, b2_fdivI, b2_mdI, b2_powI, b2_addT, b2_addS, b2_addL, c2_eq, c2_ne, c2_lt, c2_le, c2_gt, c2_ge, c2_in, c2_nin, Option.map_some, Option.bind_some, eqc_ii, eqc_ss, eqc_ints, eqc_intsT, eqc_ints0, eqc_intsT0, eqc_nilL, eqc_nilT, eqc_bb, eqc_is, eqc_si, eqc_ns, eqc_sn, eqc_nn, eqc_ni, eqc_in, List.all_cons, List.all_nil, tru_b, tru_i, mtru, biW_int, biW_intb, biW_abs, biW_min2, biW_max2, List.map_cons, List.map_nil, List.length_cons, List.length_nil, List.cons_append, List.nil_append, List.replicate_succ, List.replicate_zero, decide_true, decide_false, decide_eq_true_eq, if_true, if_false, ite_true, ite_false, Bool.not_true, Bool.not_false, reduceIte, and_true, true_and, false_and, and_false, ne_eq, not_true_eq_false, not_false_eq_true, Nat.zero_add, Bool.false_eq_true, reduceCtorEq, decide_not, Nat.sub_zero, eq_self, and_self, valsV_enc, keysV_enc, itemsV_enc, Nat.add_one_sub_one, smallI_eq, smallR_eq, seqOf, lstOf, forall_const, Bool.and_true, Bool.true_and, Bool.or_true, Bool.true_or, Bool.or_false, Bool.false_or, Bool.or_eq_true, Bool.and_eq_true, seval, idx_ref, idxR_lst, idxR_dct, idx_lst, idx_tup, idx_str, idx_dct, atI_0, atI_1, atI_2, atI_3, fld_ref, fldR_ins, getF_cons, getF_nil, putF_cons, putF_nil, stF_ref, stFR_ins, meth_ref, methR_ins, stS_ref, stSR_lst, stSR_dct, toKy_i, toKy_s, toKy_si, toKy_ss, toKy_ii, in_ref, inR_dct, inV_ref, in_ints, in_intsT, del_ref, dctOf_ref, dctR_dct, get2_eq, get2R_some, Option.getD_some, Option.getD_none, delR_S, delR_I, wd_some, leLine_t, ltLine_t, vw_ref, vwR_dct, unlkR, lockK_r, lockO_rt, lockO_nx, slc_lst, slc_tup, slc_str, cutL_1, len_lst, len_tup, len_str, tuple_lst, tuple_tup, list_tup, list_lst, mkL_f, mkL_t, dict_lst, listd_eq, listdR_some, src_lst, src_tup, src_str, src_ref, set_get, new_get, set_nxt, new_nxt, set_set, getK_S, getK_I, getK_SI, getK_SS, kyOk_S, kyOk_I, kyOk_SI, kyOk_SS, delK_S, delK_I, kyW_S, kyW_I, kyW_SI, kyW_SS, Option.isSome_map, Option.isSome_none, Option.isSome_some, Option.map_none, Option.bind_none, inVR_enc, List.append_nil, $as,*])
local macro_rules | `(tactic| simp? [$as,*]) => `(tactic| simp only [↓wv_cst, ↓wv_var, ↓wv_bin, ↓wv_neg, ↓wv_cmp, ↓wv_chn, ↓wv_isN, ↓wv_and, ↓wv_or, ↓wv_not, ↓wv_ite, ↓wv_tup, ↓wv_lst, ↓wv_dct0, ↓wv_fld, ↓wv_idx, ↓wv_slc, ↓wv_call, ↓wv_new, ↓wv_meth, ↓wv_bi, ↓wv_bm, ↓wv_comp, ↓wc_compG, ↓wv_lkd, ↓wv_inV, ↓wv_litems, ↓wv_dget, ↓wv_lam, ↓wv_thk, ↓ws_nil, ↓ws_cons, ↓wt_nil, ↓wt_cons, ↓wq_no, ↓wq_so, ↓wi_seq, ↓wi_rng1, ↓wi_rng2, ↓wi_enum, ↓wi_keys, ↓wi_vals, ↓wi_items, ↓wg_var, ↓wg_tup, ↓wg_sub, ↓wg_fld, ↓wgs_nil, ↓wgs_cons, ↓wx_expr, ↓wx_asg, ↓wx_aug, ↓wx_augF, ↓wx_augS, ↓wx_ret, ↓wx_ret0, ↓wx_iff, ↓wx_forr, ↓wx_forB, ↓wx_whil, ↓wx_whilT, ↓wx_whilB, ↓wx_tryy, ↓wx_del, ↓wo_delM, ↓wx_rais, ↓wx_brk, ↓wx_cnt, ↓wx_pass, ↓wx_lkd, ↓wxs_nil, ↓wxs_cons, ↓wp_ret, ↓wp_bind, ↓wp_of, ↓wp_ofs, ↓wp_op, ↓wp_calm, ↓wp_get, ↓wp_no, ↓wo_toO, ↓wo_seq, ↓wo_end, ↓wp_make, ↓bindK_ok, ↓bindK_er, ↓toOK_ok, ↓toOK_er, ↓seqK_rt, ↓seqK_bk, ↓seqK_ct, ↓seqK_ex, ↓calmK_ok, ↓retK_nx, ↓retK_rt, ↓retK_rtf, ↓retK_ex, ↓makeK_non, ↓makeK_nonf, ↓makeK_er, ↓tryK_ex, ↓tryK_nx, ↓tryK_rt, ↓tryK_bk, ↓tryK_ct, ↓ifK_t, ↓ifK_f, ↓turnK_nx, ↓turnK_ct, ↓turnK_bk, ↓turnK_rt, ↓turnK_ex, ↓whilK_nx, ↓whilK_ct, ↓whilK_bk, ↓whilK_rt, ↓whilK_ex, w1_some, w1_of, w1_ret, w1_ite, kcW, setE, wipeE, tgSlots, tgsSlots, List.getElem?_cons_zero, List.getElem?_cons_succ, Option.join_some, List.set_cons_zero, List.set_cons_succ, List.append_eq, b2_addI, b2_subI, b2_mulI, b2_fdivI, b2_mdI, b2_powI, b2_addT, b2_addS, b2_addL, c2_eq, c2_ne, c2_lt, c2_le, c2_gt, c2_ge, c2_in, c2_nin, Option.map_some, Option.bind_some, eqc_ii, eqc_ss, eqc_ints, eqc_intsT, eqc_ints0, eqc_intsT0, eqc_nilL, eqc_nilT, eqc_bb, eqc_is, eqc_si, eqc_ns, eqc_sn, eqc_nn, eqc_ni, eqc_in, List.all_cons, List.all_nil, tru_b, tru_i, mtru, biW_int, biW_intb, biW_abs, biW_min2, biW_max2, List.map_cons, List.map_nil, List.length_cons, List.length_nil, List.cons_append, List.nil_append, List.replicate_succ, List.replicate_zero, decide_true, decide_false, decide_eq_true_eq, if_true, if_false, ite_true, ite_false, Bool.not_true, Bool.not_false, reduceIte, and_true, true_and, false_and, and_false, ne_eq, not_true_eq_false, not_false_eq_true, Nat.zero_add, Bool.false_eq_true, reduceCtorEq, decide_not, Nat.sub_zero, eq_self, and_self, valsV_enc, keysV_enc, itemsV_enc, Nat.add_one_sub_one, smallI_eq, smallR_eq, seqOf, lstOf, forall_const, Bool.and_true, Bool.true_and, Bool.or_true, Bool.true_or, Bool.or_false, Bool.false_or, Bool.or_eq_true, Bool.and_eq_true, seval, idx_ref, idxR_lst, idxR_dct, idx_lst, idx_tup, idx_str, idx_dct, atI_0, atI_1, atI_2, atI_3, fld_ref, fldR_ins, getF_cons, getF_nil, putF_cons, putF_nil, stF_ref, stFR_ins, meth_ref, methR_ins, stS_ref, stSR_lst, stSR_dct, toKy_i, toKy_s, toKy_si, toKy_ss, toKy_ii, in_ref, inR_dct, inV_ref, in_ints, in_intsT, del_ref, dctOf_ref, dctR_dct, get2_eq, get2R_some, Option.getD_some, Option.getD_none, delR_S, delR_I, wd_some, leLine_t, ltLine_t, vw_ref, vwR_dct, unlkR, lockK_r, lockO_rt, lockO_nx, slc_lst, slc_tup, slc_str, cutL_1, len_lst, len_tup, len_str, tuple_lst, tuple_tup, list_tup, list_lst, mkL_f, mkL_t, dict_lst, listd_eq, listdR_some, src_lst, src_tup, src_str, src_ref, set_get, new_get, set_nxt, new_nxt, set_set, getK_S, getK_I, getK_SI, getK_SS, kyOk_S, kyOk_I, kyOk_SI, kyOk_SS, delK_S, delK_I, kyW_S, kyW_I, kyW_SI, kyW_SS, Option.isSome_map, Option.isSome_none, Option.isSome_some, Option.map_none, Option.bind_none, inVR_enc, List.append_nil, $as,*])
local macro_rules | `(tactic| dsimp? [$as,*]) => `(tactic| simp only [↓wv_cst, ↓wv_var, ↓wv_bin, ↓wv_neg, ↓wv_cmp, ↓wv_chn, ↓wv_isN, ↓wv_and, ↓wv_or, ↓wv_not, ↓wv_ite, ↓wv_tup, ↓wv_lst, ↓wv_dct0, ↓wv_fld, ↓wv_idx, ↓wv_slc, ↓wv_call, ↓wv_new, ↓wv_meth, ↓wv_bi, ↓wv_bm, ↓wv_comp, ↓wc_compG, ↓wv_lkd, ↓wv_inV, ↓wv_litems, ↓wv_dget, ↓wv_lam, ↓wv_thk, ↓ws_nil, ↓ws_cons, ↓wt_nil, ↓wt_cons, ↓wq_no, ↓wq_so, ↓wi_seq, ↓wi_rng1, ↓wi_rng2, ↓wi_enum, ↓wi_keys, ↓wi_vals, ↓wi_items, ↓wg_var, ↓wg_tup, ↓wg_sub, ↓wg_fld, ↓wgs_nil, ↓wgs_cons, ↓wx_expr, ↓wx_asg, ↓wx_aug, ↓wx_augF, ↓wx_augS, ↓wx_ret, ↓wx_ret0, ↓wx_iff, ↓wx_forr, ↓wx_forB, ↓wx_whil, ↓wx_whilT, ↓wx_whilB, ↓wx_tryy, ↓wx_del, ↓wo_delM, ↓wx_rais, ↓wx_brk, ↓wx_cnt, ↓wx_pass, ↓wx_lkd, ↓wxs_nil, ↓wp_ret, ↓wp_bind, ↓wp_of, ↓wp_ofs, ↓wp_op, ↓wp_calm, ↓wp_get, ↓wp_no, ↓wo_toO, ↓wo_seq, ↓wo_end, ↓wp_make, ↓bindK_ok, ↓bindK_er, ↓toOK_ok, ↓toOK_er, ↓seqK_nx, ↓seqK_rt, ↓seqK_bk, ↓seqK_ct, ↓seqK_ex, ↓calmK_ok, ↓retK_nx, ↓retK_rt, ↓retK_rtf, ↓retK_ex, ↓makeK_non, ↓makeK_nonf, ↓makeK_er, ↓tryK_ex, ↓tryK_nx, ↓tryK_rt, ↓tryK_bk, ↓tryK_ct, ↓ifK_t, ↓ifK_f, ↓turnK_nx, ↓turnK_ct, ↓turnK_bk, ↓turnK_rt, ↓turnK_ex, ↓whilK_nx, ↓whilK_ct, ↓whilK_bk, ↓whilK_rt, ↓whilK_ex, w1_some, w1_of, w1_ret, w1_ite, kcW, setE, wipeE, tgSlots, tgsSlots, List.getElem?_cons_zero, List.getElem?_cons_succ, Option.join_some, List.set_cons_zero, List.set_cons_succ, List.append_eq, b2_addI, b2_subI, b2_mulI, b2_fdivI, b2_mdI, b2_powI, b2_addT, b2_addS, b2_addL, c2_eq, c2_ne, c2_lt, c2_le, c2_gt, c2_ge, c2_in, c2_nin, Option.map_some, Option.bind_some, eqc_ii, eqc_ss, eqc_ints, eqc_intsT, eqc_ints0, eqc_intsT0, eqc_nilL, eqc_nilT, eqc_bb, eqc_is, eqc_si, eqc_ns, eqc_sn, eqc_nn, eqc_ni, eqc_in, List.all_cons, List.all_nil, tru_b, tru_i, mtru, biW_int, biW_intb, biW_abs, biW_min2, biW_max2, List.map_cons, List.map_nil, List.length_cons, List.length_nil, List.cons_append, List.nil_append, List.replicate_succ, List.replicate_zero, decide_true, decide_false, decide_eq_true_eq, if_true, if_false, ite_true, ite_false, Bool.not_true, Bool.not_false, reduceIte, and_true, true_and, false_and, and_false, ne_eq, not_true_eq_false, not_false_eq_true, Nat.zero_add, Bool.false_eq_true, reduceCtorEq, decide_not, Nat.sub_zero, eq_self, and_self, valsV_enc, keysV_enc, itemsV_enc, Nat.add_one_sub_one, smallI_eq, smallR_eq, seqOf, lstOf, forall_const, Bool.and_true, Bool.true_and, Bool.or_true, Bool.true_or, Bool.or_false, Bool.false_or, Bool.or_eq_true, Bool.and_eq_true, seval, idx_ref, idxR_lst, idxR_dct, idx_lst, idx_tup, idx_str, idx_dct, atI_0, atI_1, atI_2, atI_3, fld_ref, fldR_ins, getF_cons, getF_nil, putF_cons, putF_nil, stF_ref, stFR_ins, meth_ref, methR_ins, stS_ref, stSR_lst, stSR_dct, toKy_i, toKy_s, toKy_si, toKy_ss, toKy_ii, in_ref, inR_dct, inV_ref, in_ints, in_intsT, del_ref, dctOf_ref, dctR_dct, get2_eq, get2R_some, Option.getD_some, Option.getD_none, delR_S, delR_I, wd_some, leLine_t, ltLine_t, vw_ref, vwR_dct, unlkR, lockK_r, lockO_rt, lockO_nx, slc_lst, slc_tup, slc_str, cutL_1, len_lst, len_tup, len_str, tuple_lst, tuple_tup, list_tup, list_lst, mkL_f, mkL_t, dict_lst, listd_eq, listdR_some, src_lst, src_tup, src_str, src_ref, set_get, new_get, set_nxt, new_nxt, set_set, getK_S, getK_I, getK_SI, getK_SS, kyOk_S, kyOk_I, kyOk_SI, kyOk_SS, delK_S, delK_I, kyW_S, kyW_I, kyW_SI, kyW_SS, Option.isSome_map, Option.isSome_none, Option.isSome_some, Option.map_none, Option.bind_none, inVR_enc, List.append_nil, $as,*])
variable {P : Pg} (hP : PgF P)
theorem dat_uses {l : List (Int × Nm × Int)} (h : ∀ p ∈ l, p.2.1.all (fun c => decide (c < 1114112)) = true) : dataW 49 (.lst (l.map (eT kU))) = true := by
  simp only [dataW]
  refine dataL_all fun x hx => ?_
  obtain ⟨k, hk, rfl⟩ := List.mem_map.mp hx
  have := h k hk
  simp only [eT, kU, List.map_cons, List.map_nil, k1W, dataW, dataL, this, Bool.and_self]
include hP
theorem rest1_wp {j : Nat} {s : Sto} {many time : Int} {l : Lt} {h : Hd} {Q : KM W} (H : Ln s many time l h) (hd : ∃ a b k, s.get 0 = some (.lst [.int a, .int b, .int k])) (h6 : 6 ≤ s.nxt) (hm : 1 ≤ many ∧ many ≤ 4) (ht : 1 ≤ time) (hl : l.length ≤ 5) (hh : h.length ≤ 5) (sl : ∀ x ∈ l.map (·.1), x ∈ nms)
    (q : ∀ s', Q (.ok (.bl true)) s') : Wp (atT (tower P (j + 8)) 0 20 [.ref 0, .int many, .int time, .ref 1] none) s Q := by
  rw [at0, wp_run hP.n20 rfl]
  have last (s : Sto) (g rp fx rl c : Nat) (rc : Rc) (b : Bool) (m : Int) (I : RI s many time l h g rp fx rl c rc rc b) (o4 o5 o6 o7 o12 o13 o14 o15 o16 o17 o18 : Option W) : Wo (exs P (tower P (j + 7)) none (Ss.drop 5 b20) [some (.ref 0), some (.int many), some (.int time), some (.ref 1), o4, o5, o6, o7, some (.ref g), some (.ref rl), some (.int m), some (.bl b), o12, o13, o14, o15, o16, o17, o18]) s (RetK false false Q) := by
    have hr := I.r
    have kn := I.I.kn
    have l6 := I.I.l6
    have fl1 : (fixL b).length ≤ 1 := by cases b <;> simp [fixL]
    have hU : ∀ p ∈ sortG kU unU (uses (alive time m rc) (fixL b)), p.2.1.all (fun c => decide (c < 1114112)) = true := by
      intro p hp
      rw [sortG_mem (fun _ => rfl)] at hp
      unfold uses at hp
      rcases List.mem_append.mp hp with hp | hp
      · obtain ⟨q, hq, rfl⟩ := List.mem_map.mp hp
        exact (gk_ok (I.I.ks _ (List.mem_map.mpr ⟨q, (List.mem_filter.mp hq).1, rfl⟩))).1
      · obtain ⟨q, hq, rfl⟩ := List.mem_map.mp hp
        cases b
        · simp [fixL] at hq
        · simp only [fixL, if_true, List.mem_singleton] at hq
          subst hq
          decide
    have dl : (alive time m rc).length ≤ 6 := Nat.le_trans (List.length_filter_le _ _) l6
    have ul : (uses (alive time m rc) (fixL b)).length ≤ 7 := by simp only [uses, List.length_append, List.length_map]; omega
    -- what stands behind the rows in use
    have t6 (o5 : Option W) (ho : o5 = some (.lst ((uses (alive time m rc) (fixL b)).map (eT kU)))) : Wo (exs P (tower P (j + 7)) none (Ss.drop 6 b20) [some (.ref 0), some (.int many), some (.int time), some (.ref 1), o4, o5, o6, o7, some (.ref g), some (.ref rl), some (.int m), some (.bl b), o12, o13, o14, o15, o16, o17, o18]) s (RetK false false Q) := by
      subst ho
      simp only [b20, Ss.drop]
      rw [wxs_cons]
      dsimp? [hP.all, I.G.a]
      refine inuse_wp hP I.G l6 kn ?_
      intro s1 x1 fr1 G1
      have I1 := I.gate x1 (fun k z1 z2 z3 => fr1 k z1 z3) rfl G1 (I.I.alive time m)
      dsimp? [sortU, eqc_refl (dat_uses hU)]
      refine ⟨le_line (by rw [List.length_map, sortG_len]; omega), by omega, ?_⟩
      have fin (s1 : Sto) (H1 : Ln s1 many time l h) (h61 : 6 ≤ s1.nxt) : Wo (exs P (tower P (j + 7)) none (Ss.drop 9 b20) [some (.ref 0), some (.int many), some (.int time), some (.ref 1), o4, some (.lst ((uses (alive time m rc) (fixL b)).map (eT kU))), o6, o7, some (.ref g), some (.ref rl), some (.int m), some (.bl b), o12, o13, o14, o15, o16, o17, o18]) s1 (RetK false false Q) := by
        simp only [b20, Ss.drop]
        rw [wxs_cons]
        dsimp? []
        refine cases_wp hP ?_
        dsimp? []
        rw [wxs_cons]
        dsimp? []
        have gt (k : Nat) (hk : k < 6) : ((s1.new (.ins 10 [])).new (.ins 11 [])).get k = s1.get k := by
          rw [new_get, if_neg (by rw [new_nxt]; omega), new_get, if_neg (by omega)]
        refine wrong_wp hP (many := many) (time := time) (l := l) (h := h) ⟨(gt 1 (by omega)).trans H1.a, (gt 2 (by omega)).trans H1.b, (gt 3 (by omega)).trans H1.c⟩ hm hl hh sl ?_
        push_cast []
        exact q _
      have G1' := G1
      rw [wxs_cons]
      cases b with
      | false =>
        dsimp? []
        rw [wxs_cons]
        dsimp? []
        exact fin s1 I1.L (by rw [x1]; have := I.p6; have := I.G.g2; omega)
      | true =>
        have hw : web.all (fun c => decide (c < 1114112)) = true := by decide
        dsimp? [hP.all, G1.a]
        refine come90 hP G1 ?_
        have e1 : eqC s1 (.tup [.str web, .int 80]) (.tup [.str [119, 101, 98], .int 80]) = some true := by
          rw [show ([119, 101, 98] : List Nat) = web from rfl, eqc_key hw hw]; simp
        dsimp? [e1, hP.all, G1.a]
        refine out90 hP G1 ?_
        dsimp? []
        rw [wxs_cons]
        dsimp? [dr2]
        refine told_wp hP ?_
        dsimp? [hP.all, G1.a]
        refine fix_wp hP G1 I1.I.l6 I1.I.kn (by simp) ?_
        intro s2 rp2 r2 x2 fr2 hp2 hr2 G2
        simp only [if_true] at hr2
        subst hr2
        have I2 := I1.gate x2 fr2 hp2 G2 (I1.I.alive time m)
        dsimp? [told_er, toldS]
        exact fin s2 I2.L (by rw [x2]; have := I1.p6; have := I1.G.g2; omega)
    simp only [b20, Ss.drop]
    rw [wxs_cons]
    dsimp? []
    rw [wp_lock (n := rl) (kvs := encD eSI eRl rc) (by simp [lkN, hr])]
    dsimp? []
    refine wp_comp (inj := fun p : (Nm × Int) × Rv => .tup [.str p.1.1, .int p.1.2]) (p := fun p => decide (m - p.2.2.1 < time)) (emb := eT kU) (g := fun p => (p.2.1, p.1.1, p.1.2)) rc ((alive time m rc).map (fun p => (p.2.1, p.1.1, p.1.2))) rfl (by simp [alive]) ?_ (by simp [set_get, beqD_self]) ?_
    · rintro ⟨⟨x, i⟩, p, t, as, fs⟩ hx
      by_cases c : m - t < time
      · push_cast [idxR_dctT (encD_ne hx), lk_of kn hx, eRl, c, eT, kU, k1W]
      · push_cast [idxR_dctT (encD_ne hx), lk_of kn hx, eRl, c]
    cases b with
    | false =>
      dsimp? [set_self hr]
      refine ⟨le_line (by simp only [List.length_map]; omega), le_line (by simp only [List.length_map]; omega), ?_⟩
      exact t6 _ (by simp [uses, fixL])
    | true =>
      dsimp? [set_self hr]
      refine ⟨le_line (by simp only [List.length_map]; omega), le_line (by simp only [List.length_map]; omega), ?_⟩
      exact t6 _ (by simp [uses, fixL, eT, kU, k1W])
  simp only [f20, b20]
  rw [wxs_cons]
  dsimp? []
  obtain ⟨da, db, dk, hD⟩ := hd
  refine roll_wp hP hD (by decide) (by decide) ?_
  intro r1 a1 b1 k1 hr10 hr11
  dsimp? []
  refine roll_wp hP (n := 0) (a := a1) (b := b1) (k := k1) (by simp [set_get]) (by decide) (by decide) ?_
  intro r2 a2 b2 k2 hr20 hr21
  dsimp? []
  have H : Ln (s.set 0 (.lst [.int a2, .int b2, .int k2])) many time l h := ⟨by simp [set_get, H.a], by simp [set_get, H.b], by simp [set_get, H.c]⟩
  have h6 : 6 ≤ (s.set 0 (.lst [.int a2, .int b2, .int k2])).nxt := h6
  have hD : (s.set 0 (.lst [.int a2, .int b2, .int k2])).get 0 = some (.lst [.int a2, .int b2, .int k2]) := by simp [set_get]
  generalize s.set 0 (.lst [.int a2, .int b2, .int k2]) = s at H h6 hD ⊢
  rw [wxs_cons]
  dsimp? []
  refine asks_wp hP ?_
  rw [if_neg (by omega)]
  have e1 : r1 + (1 + r2) - r1 = 1 + r2 := by omega
  have e2 : eqC s (.tup [.int (r1 + (1 + r2) / 2), .int (r1 + (1 + r2) * 7 / 8)]) (.tup [.int (r1 + (1 + r2) / 2), .int (r1 + (1 + r2) * 7 / 8)]) = some true := eqc_refl (by simp [dataW, dataL])
  dsimp? [e1, e2]
  rw [wxs_cons]
  dsimp? [hP.all, at1]
  refine ginit_wp hP (by simp [new_get]) (by simp [new_nxt]) hm.1 ht ?_
  intro s1 x1 G1 fr1
  have x1' : s1.nxt = s.nxt + 3 := x1
  have old (k : Nat) (hk : k < s.nxt) : s1.get k = s.get k := by
    rw [fr1 k (by omega) (by simp only [new_nxt]; omega), new_get, if_neg (by omega)]
  dsimp? [hP.all]
  have G2 : Gt (s1.new (.dct false [])) s.nxt (s.nxt + 1) (s.nxt + 2) many time [] (fixL false) := by
    have b1 : ¬ s.nxt = s1.nxt := by omega
    have b2 : ¬ s.nxt + 1 = s1.nxt := by omega
    have b3 : ¬ s.nxt + 2 = s1.nxt := by omega
    exact ⟨by simp only [new_get, b1, if_false]; exact G1.a, by simp only [new_get, b2, if_false]; exact G1.b, by simp only [new_get, b3, if_false]; exact G1.c, by simp only [new_nxt]; omega, by simp only [new_nxt]; omega, by simp only [new_nxt]; omega, by omega, by omega, by omega⟩
  have old2 (k : Nat) (hk : k < s.nxt) : (s1.new (.dct false [])).get k = s.get k := by
    rw [new_get, if_neg (by omega)]; exact old k hk
  have hR : (s1.new (.dct false [])).get s1.nxt = some (.dct false []) := by simp [new_get]
  have hN : (s1.new (.dct false [])).nxt = s.nxt + 4 := by rw [new_nxt, x1']
  generalize hs2 : s1.new (.dct false []) = s2 at G2 old2 hR hN ⊢
  rw [x1'] at hR ⊢
  have I2 : RI s2 many time l h s.nxt (s.nxt + 1) (s.nxt + 2) (s.nxt + 3) 0 [] [] false := by
    refine ⟨G2, ⟨(old2 1 (by omega)).trans H.a, (old2 2 (by omega)).trans H.b, (old2 3 (by omega)).trans H.c⟩, ⟨_, _, _, (old2 0 (by omega)).trans hD⟩, hR, ⟨by simp, by simp, by simp, by simp, by simp, by simp, by simp, by simp⟩, by omega, by omega, by omega, by omega, by omega, by omega, by omega, by omega⟩
  clear hs2
  refine roll_wp hP ((old2 0 (by omega)).trans hD) (by decide) (by decide) ?_
  intro r3 a3 b3 k3 hr30 hr31
  have I3 := I2.set0 a3 b3 k3
  generalize s2.set 0 (.lst [.int a3, .int b3, .int k3]) = s3 at I3 ⊢
  have loop (s : Sto) (g rp fx rl : Nat) (b : Bool) (I : RI s many time l h g rp fx rl 0 [] [] b) (o4 o5 o6 o7 o12 o13 o14 o15 o16 o17 o18 : Option W) : Wo (exs P (tower P (j + 7)) none (Ss.drop 4 b20) [some (.ref 0), some (.int many), some (.int time), some (.ref 1), o4, o5, o6, o7, some (.ref g), some (.ref rl), some (.int 0), some (.bl b), o12, o13, o14, o15, o16, o17, o18]) s (RetK false false Q) := by
    simp only [b20, Ss.drop]
    rw [wxs_cons]
    dsimp? []
    obtain ⟨da, db, dk, hD⟩ := I.d
    refine roll_wp hP hD (by decide) (by decide) ?_
    intro r a b' k hr0 hr1
    have I := I.set0 a b' k
    generalize s.set 0 (.lst [.int a, .int b', .int k]) = s at I ⊢
    dsimp? []
    refine ⟨by omega, ?_⟩
    refine wo_range (fun i ρ s => ∃ g rp fx rl rc m o4 o5 o6 o7 o12 o13 o14 o15 o16 o17 o18, RI s many time l h g rp fx rl i rc rc b ∧ ρ = [some (.ref 0), some (.int many), some (.int time), some (.ref 1), o4, o5, o6, o7, some (.ref g), some (.ref rl), some (.int m), some (.bl b), o12, o13, o14, o15, o16, o17, o18]) ?_ ?_ ⟨g, rp, fx, rl, [], 0, _, _, _, _, _, _, _, _, _, _, _, I, rfl⟩
    · rintro i ρ s hi ⟨g, rp, fx, rl, rc, m, o4, o5, o6, o7, o12, o13, o14, o15, o16, o17, o18, I, rfl⟩
      refine gturn hP (c := i) I hm (by omega) ?_
      intro s' rp' rl' rc' m' o4 o12 o13 o14 o15 o16 o17 o18 _ I'
      exact ⟨rfl, _, _, _, _, _, _, _, _, _, _, _, _, _, _, _, _, _, I', rfl⟩
    · rintro ρ s ⟨g, rp, fx, rl, rc, m, o4, o5, o6, o7, o12, o13, o14, o15, o16, o17, o18, I, rfl⟩
      exact last s g rp fx rl _ rc b m I _ _ _ _ _ _ _ _ _ _ _
  dsimp? []
  by_cases c : r3 = 1
  · dsimp? [c]
    rw [wxs_cons]
    dsimp? []
    rw [wxs_cons]
    dsimp? [hP.all, I3.G.a]
    refine fix_wp hP I3.G (by simp) (by simp) (fun _ => ⟨rfl, rfl, rfl⟩) ?_
    intro s4 rp4 r4 x4 fr4 hp4 hr4 G4
    simp only [Bool.false_eq_true, if_false] at hr4
    subst hr4
    have I4 := I3.gate x4 fr4 hp4 G4 (I3.I.alive time 0)
    dsimp? []
    exact loop s4 _ _ _ _ true I4 _ _ _ _ _ _ _ _ _ _ _
  · dsimp? [c]
    rw [wxs_cons]
    dsimp? []
    exact loop s3 _ _ _ _ false I3 _ _ _ _ _ _ _ _ _ _ _
end L

end

section
set_option Elab.async false
set_option linter.all false
set_option maxRecDepth 100000
set_option maxHeartbeats 4000000
namespace L
open Mn
local macro_rules | `(tactic| push_cast [$as,*]) => `(tactic| simp only [↓wv_cst, ↓wv_var, ↓wv_bin, ↓wv_neg, ↓wv_cmp, ↓wv_chn, ↓wv_isN, ↓wv_and, ↓wv_or, ↓wv_not, ↓wv_ite, ↓wv_tup, ↓wv_lst, ↓wv_dct0, ↓wv_fld, ↓wv_idx, ↓wv_slc, ↓wv_call, ↓wv_new, ↓wv_meth, ↓wv_bi, ↓wv_bm, ↓wv_comp, ↓wc_compG, ↓wv_lkd, ↓wv_inV, ↓wv_litems, ↓wv_dget, ↓wv_lam, ↓wv_thk, ↓ws_nil, ↓ws_cons, ↓wt_nil, ↓wt_cons, ↓wq_no, ↓wq_so, ↓wi_seq, ↓wi_rng1, ↓wi_rng2, ↓wi_enum, ↓wi_keys, ↓wi_vals, ↓wi_items, ↓wg_var, ↓wg_tup, ↓wg_sub, ↓wg_fld, ↓wgs_nil, ↓wgs_cons, ↓wx_expr, ↓wx_asg, ↓wx_aug, ↓wx_augF, ↓wx_augS, ↓wx_ret, ↓wx_ret0, ↓wx_iff, ↓wx_forr, ↓wx_forB, ↓wx_whil, ↓wx_whilT, ↓wx_whilB, ↓wx_tryy, ↓wx_del, ↓wo_delM, ↓wx_rais, ↓wx_brk, ↓wx_cnt, ↓wx_pass, ↓wx_lkd, ↓wxs_nil, ↓wxs_cons, ↓wp_ret, ↓wp_bind, ↓wp_of, ↓wp_ofs, ↓wp_op, ↓wp_calm, ↓wp_get, ↓wp_no, ↓wo_toO, ↓wo_seq, ↓wo_end, ↓wp_make, ↓bindK_ok, ↓bindK_er, ↓toOK_ok, ↓toOK_er, ↓seqK_nx, ↓seqK_rt, ↓seqK_bk, ↓seqK_ct, ↓seqK_ex, ↓calmK_ok, ↓retK_nx, ↓retK_rt, ↓retK_rtf, ↓retK_ex, ↓makeK_non, ↓makeK_nonf, ↓makeK_er, ↓tryK_ex, ↓tryK_nx, ↓tryK_rt, ↓tryK_bk, ↓tryK_ct, ↓ifK_t, ↓ifK_f, ↓turnK_nx, ↓turnK_ct, ↓turnK_bk, ↓turnK_rt, ↓turnK_ex, ↓whilK_nx, ↓whilK_ct, ↓whilK_bk, ↓whilK_rt, ↓whilK_ex, w1_some, w1_of, w1_ret, w1_ite, kcW, setE, wipeE, tgSlots, tgsSlots, List.getElem?_cons_zero, List.getElem?_cons_succ, Option.join_some, List.set_cons_zero, List.set_cons_succ, List.append_eq, b2_addI, b2_subI, b2_mulI, b2_fdivI, b2_mdI, b2_powI, b2_addT, b2_addS, b2_addL, c2_eq, c2_ne, c2_lt, c2_le, c2_gt, c2_ge, c2_in, c2_nin, Option.map_some, Option.bind_some, eqc_ii, eqc_ss, eqc_ints, eqc_intsT, eqc_ints0, eqc_intsT0, eqc_nilL, eqc_nilT, eqc_bb, eqc_is, eqc_si, eqc_ns, eqc_sn, eqc_nn, eqc_ni, eqc_in, List.all_cons, List.all_nil, tru_b, tru_i, mtru, biW_int, biW_intb, biW_abs, biW_min2, biW_max2, List.map_cons, List.map_nil, List.length_cons, List.length_nil, List.cons_append, List.nil_append, List.replicate_succ, List.replicate_zero, decide_true, decide_false, decide_eq_true_eq, if_true, if_false, ite_true, ite_false, Bool.not_true, Bool.not_false, reduceIte, and_true, true_and, false_and, and_false, ne_eq, not_true_eq_false, not_false_eq_true, Nat.zero_add, Bool.false_eq_true, reduceCtorEq, decide_not, Nat.sub_zero, eq_self, and_self, valsV_enc, keysV_enc, itemsV_enc, Nat.add_one_sub_one, smallI_eq, smallR_eq, seqOf, lstOf, forall_const, Bool.and_true, Bool.true_and, Bool.or_true, Bool.true_or, Bool.or_false, Bool.false_or, Bool.or_eq_true, Bool.and_eq_true, seval, idx_ref, idxR_lst, idxR_dct, idx_lst, idx_tup, idx_str, idx_dct, atI_0, atI_1, atI_2, atI_3, fld_ref, fldR_ins, getF_cons, getF_nil, putF_cons, putF_nil, stF_ref, stFR_ins, meth_ref, methR_ins, stS_ref, stSR_lst, stSR_dct, toKy_i, toKy_s, toKy_si, toKy_ss, toKy_ii, in_ref, inR_dct, inV_ref, in_ints, in_intsT, del_ref, dctOf_ref, dctR_dct, get2_eq, get2R_some, Option.getD_some, Option.getD_none, delR_S, delR_I, wd_some, leLine_t, ltLine_t, vw_ref, vwR_dct, unlkR, lockK_r, lockO_rt, lockO_nx, slc_lst, slc_tup, slc_str, cutL_1, len_lst, len_tup, len_str, tuple_lst, tuple_tup, list_tup, list_lst, mkL_f, mkL_t, dict_lst, listd_eq, listdR_some, src_lst, src_tup, src_str, src_ref, set_get, new_get, set_nxt, new_nxt, set_set, getK_S, getK_I, getK_SI, getK_SS, kyOk_S, kyOk_I, kyOk_SI, kyOk_SS, delK_S, delK_I, kyW_S, kyW_I, kyW_SI, kyW_SS, Option.isSome_map, Option.isSome_none, Option.isSome_some, Option.map_none, Option.bind_none, inVR_enc, List.append_nil, $as,*])
local macro_rules | `(tactic| simp? [$as,*]) => `(tactic| simp only [↓wv_cst, ↓wv_var, ↓wv_bin, ↓wv_neg, ↓wv_cmp, ↓wv_chn, ↓wv_isN, ↓wv_and, ↓wv_or, ↓wv_not, ↓wv_ite, ↓wv_tup, ↓wv_lst, ↓wv_dct0, ↓wv_fld, ↓wv_idx, ↓wv_slc, ↓wv_call, ↓wv_new, ↓wv_meth, ↓wv_bi, ↓wv_bm, ↓wv_comp, ↓wc_compG, ↓wv_lkd, ↓wv_inV, ↓wv_litems, ↓wv_dget, ↓wv_lam, ↓wv_thk, ↓ws_nil, ↓ws_cons, ↓wt_nil, ↓wt_cons, ↓wq_no, ↓wq_so, ↓wi_seq, ↓wi_rng1, ↓wi_rng2, ↓wi_enum, ↓wi_keys, ↓wi_vals, ↓wi_items, ↓wg_var, ↓wg_tup, ↓wg_sub, ↓wg_fld, ↓wgs_nil, ↓wgs_cons, ↓wx_expr, ↓wx_asg, ↓wx_aug, ↓wx_augF, ↓wx_augS, ↓wx_ret, ↓wx_ret0, ↓wx_iff, ↓wx_forr, ↓wx_forB, ↓wx_whil, ↓wx_whilT, ↓wx_whilB, ↓wx_tryy, ↓wx_del, ↓wo_delM, ↓wx_rais, ↓wx_brk, ↓wx_cnt, ↓wx_pass, ↓wx_lkd, ↓wxs_nil, ↓wxs_cons, ↓wp_ret, ↓wp_bind, ↓wp_of, ↓wp_ofs, ↓wp_op, ↓wp_calm, ↓wp_get, ↓wp_no, ↓wo_toO, ↓wo_seq, ↓wo_end, ↓wp_make, ↓bindK_ok, ↓bindK_er, ↓toOK_ok, ↓toOK_er, ↓seqK_rt, ↓seqK_bk, ↓seqK_ct, ↓seqK_ex, ↓calmK_ok, ↓retK_nx, ↓retK_rt, ↓retK_rtf, ↓retK_ex, ↓makeK_non, ↓makeK_nonf, ↓makeK_er, ↓tryK_ex, ↓tryK_nx, ↓tryK_rt, ↓tryK_bk, ↓tryK_ct, ↓ifK_t, ↓ifK_f, ↓turnK_nx, ↓turnK_ct, ↓turnK_bk, ↓turnK_rt, ↓turnK_ex, ↓whilK_nx, ↓whilK_ct, ↓whilK_bk, ↓whilK_rt, ↓whilK_ex, w1_some, w1_of, w1_ret, w1_ite, kcW, setE, wipeE, tgSlots, tgsSlots, List.getElem?_cons_zero, List.getElem?_cons_succ, Option.join_some, List.set_cons_zero, List.set_cons_succ, List.append_eq, b2_addI, b2_subI, b2_mulI, b2_fdivI, b2_mdI, b2_powI, b2_addT, b2_addS, b2_addL, c2_eq, c2_ne, c2_lt, c2_le, c2_gt, c2_ge, c2_in, c2_nin, Option.map_some, Option.bind_some, eqc_ii, eqc_ss, eqc_ints, eqc_intsT, eqc_ints0, eqc_intsT0, eqc_nilL, eqc_nilT, eqc_bb, eqc_is, eqc_si, eqc_ns, eqc_sn, eqc_nn, eqc_ni, eqc_in, List.all_cons, List.all_nil, tru_b, tru_i, mtru, biW_int, biW_intb, biW_abs, biW_min2, biW_max2, List.map_cons, List.map_nil, List.length_cons, List.length_nil, List.cons_append, List.nil_append, List.replicate_succ, List.replicate_zero, decide_true, decide_false, decide_eq_true_eq, if_true, if_false, ite_true, ite_false, Bool.not_true, Bool.not_false, reduceIte, and_true, true_and, false_and, and_false, ne_eq, not_true_eq_false, not_false_eq_true, Nat.zero_add, Bool.false_eq_true, reduceCtorEq, decide_not, Nat.sub_zero, eq_self, and_self, valsV_enc, keysV_enc, itemsV_enc, Nat.add_one_sub_one, smallI_eq, smallR_eq, seqOf, lstOf, forall_const, Bool.and_true, Bool.true_and, Bool.or_true, Bool.true_or, Bool.or_false, Bool.false_or, Bool.or_eq_true, Bool.and_eq_true, seval, idx_ref, idxR_lst, idxR_dct, idx_lst, idx_tup, idx_str, idx_dct, atI_0, atI_1, atI_2, atI_3, fld_ref, fldR_ins, getF_cons, getF_nil, putF_cons, putF_nil, stF_ref, stFR_ins, meth_ref, methR_ins, stS_ref, stSR_lst, stSR_dct, toKy_i, toKy_s, toKy_si, toKy_ss, toKy_ii, in_ref, inR_dct, inV_ref, in_ints, in_intsT, del_ref, dctOf_ref, dctR_dct, get2_eq, get2R_some, Option.getD_some, Option.getD_none, delR_S, delR_I, wd_some, leLine_t, ltLine_t, vw_ref, vwR_dct, unlkR, lockK_r, lockO_rt, lockO_nx, slc_lst, slc_tup, slc_str, cutL_1, len_lst, len_tup, len_str, tuple_lst, tuple_tup, list_tup, list_lst, mkL_f, mkL_t, dict_lst, listd_eq, listdR_some, src_lst, src_tup, src_str, src_ref, set_get, new_get, set_nxt, new_nxt, set_set, getK_S, getK_I, getK_SI, getK_SS, kyOk_S, kyOk_I, kyOk_SI, kyOk_SS, delK_S, delK_I, kyW_S, kyW_I, kyW_SI, kyW_SS, Option.isSome_map, Option.isSome_none, Option.isSome_some, Option.map_none, Option.bind_none, inVR_enc, List.append_nil, $as,*])
local macro_rules | `(tactic| dsimp? [$as,*]) => `(tactic| simp only [↓wv_cst, ↓wv_var, ↓wv_bin, ↓wv_neg, ↓wv_cmp, ↓wv_chn, ↓wv_isN, ↓wv_and, ↓wv_or, ↓wv_not, ↓wv_ite, ↓wv_tup, ↓wv_lst, ↓wv_dct0, ↓wv_fld, ↓wv_idx, ↓wv_slc, ↓wv_call, ↓wv_new, ↓wv_meth, ↓wv_bi, ↓wv_bm, ↓wv_comp, ↓wc_compG, ↓wv_lkd, ↓wv_inV, ↓wv_litems, ↓wv_dget, ↓wv_lam, ↓wv_thk, ↓ws_nil, ↓ws_cons, ↓wt_nil, ↓wt_cons, ↓wq_no, ↓wq_so, ↓wi_seq, ↓wi_rng1, ↓wi_rng2, ↓wi_enum, ↓wi_keys, ↓wi_vals, ↓wi_items, ↓wg_var, ↓wg_tup, ↓wg_sub, ↓wg_fld, ↓wgs_nil, ↓wgs_cons, ↓wx_expr, ↓wx_asg, ↓wx_aug, ↓wx_augF, ↓wx_augS, ↓wx_ret, ↓wx_ret0, ↓wx_iff, ↓wx_forr, ↓wx_forB, ↓wx_whil, ↓wx_whilT, ↓wx_whilB, ↓wx_tryy, ↓wx_del, ↓wo_delM, ↓wx_rais, ↓wx_brk, ↓wx_cnt, ↓wx_pass, ↓wx_lkd, ↓wxs_nil, ↓wp_ret, ↓wp_bind, ↓wp_of, ↓wp_ofs, ↓wp_op, ↓wp_calm, ↓wp_get, ↓wp_no, ↓wo_toO, ↓wo_seq, ↓wo_end, ↓wp_make, ↓bindK_ok, ↓bindK_er, ↓toOK_ok, ↓toOK_er, ↓seqK_nx, ↓seqK_rt, ↓seqK_bk, ↓seqK_ct, ↓seqK_ex, ↓calmK_ok, ↓retK_nx, ↓retK_rt, ↓retK_rtf, ↓retK_ex, ↓makeK_non, ↓makeK_nonf, ↓makeK_er, ↓tryK_ex, ↓tryK_nx, ↓tryK_rt, ↓tryK_bk, ↓tryK_ct, ↓ifK_t, ↓ifK_f, ↓turnK_nx, ↓turnK_ct, ↓turnK_bk, ↓turnK_rt, ↓turnK_ex, ↓whilK_nx, ↓whilK_ct, ↓whilK_bk, ↓whilK_rt, ↓whilK_ex, w1_some, w1_of, w1_ret, w1_ite, kcW, setE, wipeE, tgSlots, tgsSlots, List.getElem?_cons_zero, List.getElem?_cons_succ, Option.join_some, List.set_cons_zero, List.set_cons_succ, List.append_eq, b2_addI, b2_subI, b2_mulI, b2_fdivI, b2_mdI, b2_powI, b2_addT, b2_addS, b2_addL, c2_eq, c2_ne, c2_lt, c2_le, c2_gt, c2_ge, c2_in, c2_nin, Option.map_some, Option.bind_some, eqc_ii, eqc_ss, eqc_ints, eqc_intsT, eqc_ints0, eqc_intsT0, eqc_nilL, eqc_nilT, eqc_bb, eqc_is, eqc_si, eqc_ns, eqc_sn, eqc_nn, eqc_ni, eqc_in, List.all_cons, List.all_nil, tru_b, tru_i, mtru, biW_int, biW_intb, biW_abs, biW_min2, biW_max2, List.map_cons, List.map_nil, List.length_cons, List.length_nil, List.cons_append, List.nil_append, List.replicate_succ, List.replicate_zero, decide_true, decide_false, decide_eq_true_eq, if_true, if_false, ite_true, ite_false, Bool.not_true, Bool.not_false, reduceIte, and_true, true_and, false_and, and_false, ne_eq, not_true_eq_false, not_false_eq_true, Nat.zero_add, Bool.false_eq_true, reduceCtorEq, decide_not, Nat.sub_zero, eq_self, and_self, valsV_enc, keysV_enc, itemsV_enc, Nat.add_one_sub_one, smallI_eq, smallR_eq, seqOf, lstOf, forall_const, Bool.and_true, Bool.true_and, Bool.or_true, Bool.true_or, Bool.or_false, Bool.false_or, Bool.or_eq_true, Bool.and_eq_true, seval, idx_ref, idxR_lst, idxR_dct, idx_lst, idx_tup, idx_str, idx_dct, atI_0, atI_1, atI_2, atI_3, fld_ref, fldR_ins, getF_cons, getF_nil, putF_cons, putF_nil, stF_ref, stFR_ins, meth_ref, methR_ins, stS_ref, stSR_lst, stSR_dct, toKy_i, toKy_s, toKy_si, toKy_ss, toKy_ii, in_ref, inR_dct, inV_ref, in_ints, in_intsT, del_ref, dctOf_ref, dctR_dct, get2_eq, get2R_some, Option.getD_some, Option.getD_none, delR_S, delR_I, wd_some, leLine_t, ltLine_t, vw_ref, vwR_dct, unlkR, lockK_r, lockO_rt, lockO_nx, slc_lst, slc_tup, slc_str, cutL_1, len_lst, len_tup, len_str, tuple_lst, tuple_tup, list_tup, list_lst, mkL_f, mkL_t, dict_lst, listd_eq, listdR_some, src_lst, src_tup, src_str, src_ref, set_get, new_get, set_nxt, new_nxt, set_set, getK_S, getK_I, getK_SI, getK_SS, kyOk_S, kyOk_I, kyOk_SI, kyOk_SS, delK_S, delK_I, kyW_S, kyW_I, kyW_SI, kyW_SS, Option.isSome_map, Option.isSome_none, Option.isSome_some, Option.map_none, Option.bind_none, inVR_enc, List.append_nil, $as,*])
variable {P : Pg} (hP : PgF P)
theorem nms_ok {w : Nm} (hw : w ∈ nms) : w.all (fun c => decide (c < 1114112)) = true := by
  simp only [nms, List.mem_cons, List.not_mem_nil, or_false] at hw
  rcases hw with rfl | rfl | rfl | rfl | rfl <;> decide
theorem dat_hold {l : List (Int × Nm)} (h : ∀ p ∈ l, p.2.all (fun c => decide (c < 1114112)) = true) : dataW 49 (.lst (l.map eIS)) = true := by
  simp only [dataW]
  refine dataL_all fun x hx => ?_
  obtain ⟨k, hk, rfl⟩ := List.mem_map.mp hx
  have := h k hk
  simp only [eIS, dataW, dataL, this, Bool.and_self]
theorem hold_nodup {l : Lt} {m : Int} (kl : (l.map (·.1)).Nodup) (act : ∀ p ∈ l, ∀ q ∈ l, m < p.2.2 → m < q.2.2 → p.2.1 = q.2.1 → p = q) : ((sortIS (holdL l m)).map (·.1)).Nodup := by
  have h1 : ((holdL l m).map (·.1)).Nodup := by
    unfold holdL
    rw [List.map_map]
    have n : l.Pairwise (fun a b => a.1 ≠ b.1) := List.pairwise_map.mp kl
    have n2 : (l.filter fun p => decide (m < p.2.2)).Pairwise (fun a b => a.2.1 ≠ b.2.1) := by
      refine (n.filter _).imp_of_mem ?_
      intro a b ha hb hab he
      have ha' := List.mem_filter.mp ha
      have hb' := List.mem_filter.mp hb
      have := act a ha'.1 b hb'.1 (by simpa using ha'.2) (by simpa using hb'.2) he
      exact hab (by rw [this])
    exact List.pairwise_map.mpr n2
  have h2 : (sortIS (holdL l m)).Perm (holdL l m) := by
    have h := (sortB_prm (lt := ltKs) (l := (holdL l m).map kIS)).map unIS
    rw [List.map_map, show unIS ∘ kIS = id from rfl, List.map_id] at h
    exact h
  exact (h2.map (·.1)).nodup_iff.mpr h1
include hP
theorem law_wp {j : Nat} {s : Sto} {ns : List Int} (h0 : s.nxt = 0) : Wp (atT (tower P (j + 12)) 0 21 [.lst (ns.map .int)] none) s (fun r _ => r = .ok (.bl true)) := by
  rw [at0, wp_run hP.n21 rfl]
  simp only [f21, b21]
  rw [wxs_cons]
  dsimp? []
  refine rounds_wp hP fun da db dk => ?_
  dsimp? [turns_cons, turns_nil, h0]
  generalize hs : s.new (.lst [.int da, .int db, .int dk]) = s1
  have x1 : s1.nxt = 1 := by rw [← hs, new_nxt, h0]
  have hD : s1.get 0 = some (.lst [.int da, .int db, .int dk]) := by rw [← hs, new_get, h0, if_pos rfl]
  rw [wxs_cons]
  dsimp? []
  refine roll_wp hP hD (by decide) (by decide) ?_
  intro r1 a1 b1 k1 hr10 hr11
  dsimp? []
  refine roll_wp hP (n := 0) (a := a1) (b := b1) (k := k1) (by simp [set_get]) (by decide) (by decide) ?_
  intro r2 a2 b2 k2 hr20 hr21
  dsimp? []
  have hD : (s1.set 0 (.lst [.int a2, .int b2, .int k2])).get 0 = some (.lst [.int a2, .int b2, .int k2]) := by simp [set_get]
  have x1 : (s1.set 0 (.lst [.int a2, .int b2, .int k2])).nxt = 1 := x1
  generalize s1.set 0 (.lst [.int a2, .int b2, .int k2]) = s1 at hD x1 ⊢
  have hm : 1 ≤ 1 + r1 ∧ 1 + r1 ≤ 4 := by omega
  have ht : 1 ≤ 1 + r2 := by omega
  generalize 1 + r1 = many at hm ⊢
  generalize 1 + r2 = time at ht ⊢
  rw [wxs_cons]
  dsimp? [hP.all, at1]
  refine init_wp hP (by simp [new_get]) (by simp [new_nxt]) hm.1 ht ?_
  intro s2 x2 g1 g2 g3 fr
  have x2' : s2.nxt = 4 := by rw [x2, new_nxt, x1]
  clear x2
  have g0 : s2.get 0 = some (.lst [.int a2, .int b2, .int k2]) := by
    rw [fr 0 (by omega) (by rw [new_nxt]; omega), new_get, if_neg (by omega)]; exact hD
  simp only [new_nxt, x1] at g1 g2 g3
  dsimp? [hP.all, x1, x2']
  have I : LI ((s2.new (.dct false [])).new (.dct false [])) many time 4 [] [] 0 := by
    refine ⟨⟨?_, ?_, ?_⟩, ⟨a2, b2, k2, ?_⟩, ?_, ?_, .inl rfl, ?_, ?_, by simp, by simp, by simp, by simp, by simp⟩
    · rw [new_get, if_neg (by rw [new_nxt]; omega), new_get, if_neg (by omega)]; exact g1
    · rw [new_get, if_neg (by rw [new_nxt]; omega), new_get, if_neg (by omega)]; exact g2
    · rw [new_get, if_neg (by rw [new_nxt]; omega), new_get, if_neg (by omega)]; exact g3
    · rw [new_get, if_neg (by rw [new_nxt]; omega), new_get, if_neg (by omega)]; exact g0
    · rw [new_get, if_neg (by rw [new_nxt]; omega), new_get, if_pos (by omega)]; rfl
    · rw [new_get, if_pos (by rw [new_nxt]; omega)]; rfl
    · simp only [new_nxt]; omega
    · simp only [new_nxt]; omega
  generalize (s2.new (.dct false [])).new (.dct false []) = s3 at I ⊢
  -- what stands behind the loop
  have last (s : Sto) (n : Nat) (l : Lt) (h : Hd) (m : Int) (I : LI s many time n l h m) (o2 o9 o10 o11 o12 o13 o14 o15 o16 o17 o18 : Option W) (Q : KO) (q : ∀ ρ s, Q (.nx ρ) s) : Wo (exs P (tower P (j + 11)) none (Ss.drop 3 (b21.get 0).body) [some (.lst (ns.map .int)), some (.ref 0), o2, some (.int many), some (.int time), some (.ref 1), some (.ref n), some (.ref 5), some (.int m), o9, o10, o11, o12, o13, o14, o15, o16, o17, o18]) s Q := by
    have hn := I.fn
    have l5 := I.l5
    have hl : (holdL l m).length ≤ 5 := by
      unfold holdL
      rw [List.length_map]
      exact Nat.le_trans (List.length_filter_le _ _) l5
    have hok : ∀ p ∈ sortIS (holdL l m), p.2.all (fun c => decide (c < 1114112)) = true := by
      intro p hp
      rw [sortIS_mem] at hp
      unfold holdL at hp
      obtain ⟨q, hq, rfl⟩ := List.mem_map.mp hp
      exact nms_ok (I.sl _ (List.mem_map.mpr ⟨q, (List.mem_filter.mp hq).1, rfl⟩))
    have e0 : ∀ s : Sto, eqC s (.lst ((sortIS (holdL l m)).map eIS)) (.lst ((sortIS (holdL l m)).map eIS)) = some true := fun s => eqc_refl (dat_hold hok)
    simp only [b21, Ss.get, S.body, Ss.drop]
    rw [wxs_cons]
    dsimp? [hP.all, I.L.a]
    refine holders_wp hP I.L l5 ?_
    dsimp? []
    refine ⟨le_line (by rw [List.length_map, sortIS_len]; omega), ?_⟩
    rw [wp_lock (n := n) (kvs := encD eS eL l) (by simp [lkN, hn])]
    dsimp? []
    refine wp_comp (inj := fun p : Nm × (Int × Int) => .str p.1) (p := fun p => decide (m < p.2.2)) (emb := eIS) (g := fun p => (p.2.1, p.1)) l (holdL l m) rfl rfl ?_ (by simp [set_get, beqD_self]) ?_
    · rintro ⟨x, a, u⟩ hx
      by_cases c : m < u
      · push_cast [idxR_dctT (encD_ne hx), lk_of I.kl hx, eL, c, eIS]
      · push_cast [idxR_dctT (encD_ne hx), lk_of I.kl hx, eL, c]
    dsimp? [set_self hn, sortT_IS, e0]
    refine ⟨le_line (by rw [List.length_map]; omega), by omega, ?_⟩
    rw [wxs_cons]
    dsimp? [hP.all, I.L.a]
    refine holders_wp hP I.L l5 ?_
    dsimp? []
    refine wp_comp1 (inj := eIS) (emb := fun p : Int × Nm => .tup [.int p.1, .int 1]) (g := fun p => p) (sortIS (holdL l m)) (sortIS (holdL l m)) rfl (by simp) ?_ rfl ?_
    · rintro ⟨a, x⟩ hx
      push_cast [eIS]
    have ps : pairsOf ((sortIS (holdL l m)).map fun p : Int × Nm => .tup [.int p.1, .int 1]) = some (encD eI (fun _ : Nm => .int 1) (sortIS (holdL l m))) := pairs_enc (ke := eI) (ve := fun _ : Nm => .int 1) eI_inj (fun _ => rfl) (.inl fun _ => rfl) (hold_nodup I.kl I.act)
    dsimp? [ps, encD_len]
    refine ⟨le_line (by rw [List.length_map, sortIS_len]; omega), le_line (by rw [sortIS_len]; omega), ?_⟩
    have h6 := I.s6
    have hs := I.ns
    have nn := I.nn
    have old (k : Nat) (hk : k < s.nxt) (o : SO) : (s.new o).get k = s.get k := by rw [new_get, if_neg (by omega)]
    have L1 (o : SO) : Ln (s.new o) many time l h := ⟨(old 1 (by omega) o).trans I.L.a, (old 2 (by omega) o).trans I.L.b, (old 3 (by omega) o).trans I.L.c⟩
    obtain ⟨xa, xb, xk, hD⟩ := I.d
    have b1 : ¬ 1 = s.nxt := by omega
    dsimp? [len_refD (by rw [new_get, if_pos rfl] : (s.new (.dct false (encD eI (fun _ : Nm => .int 1) (sortIS (holdL l m))))).get s.nxt = _), encD_len, hP.all, b1, I.L.a]
    refine holders_wp hP (L1 _) l5 ?_
    dsimp? [List.length_map]
    rw [wxs_cons]
    dsimp? []
    refine rest1_wp hP (L1 _) ⟨xa, xb, xk, (old 0 (by omega) _).trans hD⟩ (by rw [new_nxt]; omega) hm ht l5 I.h5 I.sl ?_
    intro s'
    dsimp? []
    exact q _ _
  rw [wxs_cons]
  dsimp? []
  obtain ⟨xa, xb, xk, hD⟩ := I.d
  refine roll_wp hP hD (by decide) (by decide) ?_
  intro r3 a3 b3 k3 hr30 hr31
  have I := I.set0 a3 b3 k3
  generalize s3.set 0 (.lst [.int a3, .int b3, .int k3]) = s3 at I ⊢
  dsimp? []
  refine ⟨by omega, ?_⟩
  refine wo_range (fun i ρ s => ∃ n l h m o2 o9 o10 o11 o12 o13 o14 o15 o16 o17 o18, LI s many time n l h m ∧ ρ = [some (.lst (ns.map .int)), some (.ref 0), o2, some (.int many), some (.int time), some (.ref 1), some (.ref n), some (.ref 5), some (.int m), o9, o10, o11, o12, o13, o14, o15, o16, o17, o18]) ?_ ?_ ⟨4, [], [], 0, _, _, _, _, _, _, _, _, _, _, _, I, rfl⟩
  · rintro i ρ s hi ⟨n, l, h, m, o2, o9, o10, o11, o12, o13, o14, o15, o16, o17, o18, I, rfl⟩
    rw [wx_forB]
    dsimp? []
    rw [wxs_cons]
    dsimp? []
    obtain ⟨xa, xb, xk, hD⟩ := I.d
    refine roll_wp hP hD (by decide) (by decide) ?_
    intro r1 a1 b1 k1 hr10 hr11
    have I := I.set0 a1 b1 k1
    generalize s.set 0 (.lst [.int a1, .int b1, .int k1]) = s at I ⊢
    dsimp? []
    obtain ⟨xa, xb, xk, hD⟩ := I.d
    refine roll_wp hP hD (by decide) (by decide) ?_
    intro r2 a2 b2 k2 hr20 hr21
    have I := I.set0 a2 b2 k2
    generalize s.set 0 (.lst [.int a2, .int b2, .int k2]) = s at I ⊢
    obtain ⟨c, hc, hw⟩ := nm5 hr20 hr21
    dsimp? [hc]
    obtain ⟨xa, xb, xk, hD⟩ := I.d
    refine roll_wp hP hD (by decide) (by decide) ?_
    intro r4 a4 b4 k4 hr40 hr41
    have I := I.set0 a4 b4 k4
    generalize s.set 0 (.lst [.int a4, .int b4, .int k4]) = s at I ⊢
    dsimp? []
    have I := I.later (m' := m + r1) (by omega)
    refine body1 hP I hm hw ?_
    intro p9 p16 p17
    refine body2 hP I hm hw ?_
    intro p12 p17'
    refine body3 hP I hm hw ?_
    intro s' n' l' h' p18 I'
    exact ⟨rfl, n', l', h', m + r1, _, _, _, _, _, _, _, _, _, _, _, I', rfl⟩
  · rintro ρ s ⟨n, l, h, m, o2, o9, o10, o11, o12, o13, o14, o15, o16, o17, o18, I, rfl⟩
    refine last s n l h m I _ _ _ _ _ _ _ _ _ _ _ _ ?_
    intro ρ s
    push_cast [turns_nil]
end L

end

section
set_option Elab.async false
set_option linter.all false
set_option maxRecDepth 100000
set_option maxHeartbeats 0
namespace L
open PySem PySem.Spec PyProof.Rows Mn
def top (i : Nat) : Stmt := PySem.Challenge.pw_nethall_k09_leases.main.body.getD i (.Pass ⟨0, 0, 0, 0⟩)
def clB : Stmt → List Stmt
  | .ClassDef _ _ _ b _ _ _ _ _ _ _ => b
  | _ => []
def mth (s : Stmt) (j : Nat) : Stmt := (clB s).getD j (.Pass ⟨0, 0, 0, 0⟩)
def d0 : DD := ⟨("Lender", some "__init__"), "__init__", "Lender.__init__", (L2.defArgs (mth (top 12) 0)).args, L2.defBody (mth (top 12) 0), L2.defScope (mth (top 12) 0), ["self", "first", "last", "time"], f0, false, true⟩
def d1 : DD := ⟨("Lender", some "free"), "free", "Lender.free", (L2.defArgs (mth (top 12) 1)).args, L2.defBody (mth (top 12) 1), L2.defScope (mth (top 12) 1), ["self", "moment", "held", "address", "until"], f1, false, true⟩
def d2 : DD := ⟨("Lender", some "offer"), "offer", "Lender.offer", (L2.defArgs (mth (top 12) 2)).args, L2.defBody (mth (top 12) 2), L2.defScope (mth (top 12) 2), ["self", "who", "moment", "free", "fresh", "address"], f2, false, true⟩
def d3 : DD := ⟨("Lender", some "take"), "take", "Lender.take", (L2.defArgs (mth (top 12) 3)).args, L2.defBody (mth (top 12) 3), L2.defScope (mth (top 12) 3), ["self", "who", "address", "moment"], f3, false, true⟩
def d4 : DD := ⟨("Lender", some "keep_on"), "keep_on", "Lender.keep_on", (L2.defArgs (mth (top 12) 4)).args, L2.defBody (mth (top 12) 4), L2.defScope (mth (top 12) 4), ["self", "who", "moment"], f4, false, true⟩
def d5 : DD := ⟨("Lender", some "give_back"), "give_back", "Lender.give_back", (L2.defArgs (mth (top 12) 5)).args, L2.defBody (mth (top 12) 5), L2.defScope (mth (top 12) 5), ["self", "who"], f5, false, true⟩
def d6 : DD := ⟨("Lender", some "holders"), "holders", "Lender.holders", (L2.defArgs (mth (top 12) 6)).args, L2.defBody (mth (top 12) 6), L2.defScope (mth (top 12) 6), ["self", "moment", "who", "address", "until"], f6, false, true⟩
def d7 : DD := ⟨("asks_again", none), "asks_again", "asks_again", (L2.defArgs (top 13)).args, L2.defBody (top 13), L2.defScope (top 13), ["taken", "until"], f7, false, true⟩
def d8 : DD := ⟨("Gate", some "__init__"), "__init__", "Gate.__init__", (L2.defArgs (mth (top 14) 0)).args, L2.defBody (mth (top 14) 0), L2.defScope (mth (top 14) 0), ["self", "first", "last", "time"], f8, false, true⟩
def d9 : DD := ⟨("Gate", some "fix"), "fix", "Gate.fix", (L2.defArgs (mth (top 14) 1)).args, L2.defBody (mth (top 14) 1), L2.defScope (mth (top 14) 1), ["self", "port", "host", "inner", "moment", "row"], f9, false, true⟩
def d10 : DD := ⟨("Gate", some "out"), "out", "Gate.out", (L2.defArgs (mth (top 14) 2)).args, L2.defBody (mth (top 14) 2), L2.defScope (mth (top 14) 2), ["self", "host", "port", "to", "moment", "outer", "inner", "used", "free", "since", "asked", "one", "row"], f10, false, true⟩
def d11 : DD := ⟨("Gate", some "come"), "come", "Gate.come", (L2.defArgs (mth (top 14) 3)).args, L2.defBody (mth (top 14) 3), L2.defScope (mth (top 14) 3), ["self", "port", "source", "moment", "inner", "outer", "since", "asked"], f11, false, true⟩
def d12 : DD := ⟨("Gate", some "forget"), "forget", "Gate.forget", (L2.defArgs (mth (top 14) 4)).args, L2.defBody (mth (top 14) 4), L2.defScope (mth (top 14) 4), ["self", "moment", "inner", "row"], f12, false, true⟩
def d13 : DD := ⟨("Gate", some "in_use"), "in_use", "Gate.in_use", (L2.defArgs (mth (top 14) 5)).args, L2.defBody (mth (top 14) 5), L2.defScope (mth (top 14) 5), ["self", "moment", "found", "inner", "row", "outer"], f13, false, true⟩
def d14 : DD := ⟨("_law_dice", none), "_law_dice", "_law_dice", (L2.defArgs (top 16)).args, L2.defBody (top 16), L2.defScope (top 16), ["cell"], f14, false, true⟩
def d15 : DD := ⟨("_law_roll", none), "_law_roll", "_law_roll", (L2.defArgs (top 17)).args, L2.defBody (top 17), L2.defScope (top 17), ["dice", "many", "found"], f15, false, true⟩
def d16 : DD := ⟨("_law_rounds", none), "_law_rounds", "_law_rounds", (L2.defArgs (top 18)).args, L2.defBody (top 18), L2.defScope (top 18), ["script", "most", "cells", "cell"], f16, false, true⟩
def d17 : DD := ⟨("_law_told", none), "_law_told", "_law_told", (L2.defArgs (top 19)).args, L2.defBody (top 19), L2.defScope (top 19), ["what"], f17, false, false⟩
def d18 : DD := ⟨("_law_cases1", none), "_law_cases1", "_law_cases1", (L2.defArgs (top 20)).args, L2.defBody (top 20), L2.defScope (top 20), [], f18, true, true⟩
def d19 : DD := ⟨("_law_wrong", none), "_law_wrong", "_law_wrong", (L2.defArgs (top 21)).args, L2.defBody (top 21), L2.defScope (top 21), ["lender"], f19, true, true⟩
def d20 : DD := ⟨("_law_rest1", none), "_law_rest1", "_law_rest1", (L2.defArgs (top 22)).args, L2.defBody (top 22), L2.defScope (top 22), ["dice", "many", "time", "lender", "step", "due", "taken", "long", "gate", "rows", "moment", "fixed", "inner", "far", "used", "free", "port", "fits", "key"], f20, true, true⟩
def d21 : DD := ⟨("law", none), "law", "law", (L2.defArgs (top 23)).args, L2.defBody (top 23), L2.defScope (top 23), ["script", "dice", "step", "many", "time", "lender", "lent", "had", "moment", "held", "free", "mine", "fresh", "due", "who", "sort", "name", "address", "told"], f21, true, true⟩
def cls : List CD := [⟨"NetFault", true, none, false, [], []⟩, ⟨"BadAddress", true, none, false, [], []⟩, ⟨"BadFrame", true, none, false, [], []⟩, ⟨"BadCount", true, none, false, [], []⟩, ⟨"BadRow", true, none, false, [], []⟩, ⟨"NoRoute", true, none, false, [], []⟩, ⟨"NoSuch", true, none, false, [], []⟩, ⟨"Refused", true, none, false, [], []⟩, ⟨"TooLarge", true, none, false, [], []⟩, ⟨"BadText", true, some 0, false, [], []⟩, ⟨"Lender", false, some 0, false, [(5, 1), (6, 2), (10, 3), (15, 4), (16, 5), (17, 6)], [0, 1, 2, 3, 4]⟩, ⟨"Gate", false, some 8, false, [(11, 9), (12, 10), (13, 11), (9, 12), (14, 13)], [0, 1, 2, 7, 8]⟩]
def sub : List ((Nat × Nat) × Bool) := [((0, 1), false), ((0, 3), false), ((0, 2), false), ((0, 4), false), ((0, 5), false), ((0, 6), false), ((0, 7), false), ((0, 8), false), ((0, 9), false), ((1, 1), true), ((1, 3), false), ((1, 2), false), ((1, 4), false), ((1, 5), false), ((1, 6), false), ((1, 7), false), ((1, 8), false), ((1, 9), false), ((2, 1), false), ((2, 3), false), ((2, 2), true), ((2, 4), false), ((2, 5), false), ((2, 6), false), ((2, 7), false), ((2, 8), false), ((2, 9), false), ((3, 1), false), ((3, 3), true), ((3, 2), false), ((3, 4), false), ((3, 5), false), ((3, 6), false), ((3, 7), false), ((3, 8), false), ((3, 9), false), ((4, 1), false), ((4, 3), false), ((4, 2), false), ((4, 4), true), ((4, 5), false), ((4, 6), false), ((4, 7), false), ((4, 8), false), ((4, 9), false), ((5, 1), false), ((5, 3), false), ((5, 2), false), ((5, 4), false), ((5, 5), true), ((5, 6), false), ((5, 7), false), ((5, 8), false), ((5, 9), false), ((6, 1), false), ((6, 3), false), ((6, 2), false), ((6, 4), false), ((6, 5), false), ((6, 6), true), ((6, 7), false), ((6, 8), false), ((6, 9), false), ((7, 1), false), ((7, 3), false), ((7, 2), false), ((7, 4), false), ((7, 5), false), ((7, 6), false), ((7, 7), true), ((7, 8), false), ((7, 9), false), ((8, 1), false), ((8, 3), false), ((8, 2), false), ((8, 4), false), ((8, 5), false), ((8, 6), false), ((8, 7), false), ((8, 8), true), ((8, 9), false), ((9, 1), false), ((9, 3), false), ((9, 2), false), ((9, 4), false), ((9, 5), false), ((9, 6), false), ((9, 7), false), ((9, 8), false), ((9, 9), true)]
def T : Tb where
  funs := [("asks_again", (7, 2)), ("_law_dice", (14, 1)), ("_law_roll", (15, 2)), ("_law_rounds", (16, 2)), ("_law_cases1", (18, 0)), ("_law_wrong", (19, 1)), ("_law_rest1", (20, 4)), ("law", (21, 1))]
  clss := [("Lender", (10, 4)), ("Gate", (11, 4))]
  excs := [("NetFault", 0), ("BadAddress", 1), ("BadFrame", 2), ("BadCount", 3), ("BadRow", 4), ("NoRoute", 5), ("NoSuch", 6), ("Refused", 7), ("TooLarge", 8)]
  mths := [("free", (5, 1)), ("offer", (6, 2)), ("take", (10, 3)), ("keep_on", (15, 2)), ("give_back", (16, 1)), ("holders", (17, 1)), ("fix", (11, 4)), ("out", (12, 4)), ("come", (13, 3)), ("forget", (9, 1)), ("in_use", (14, 1))]
  fnm := ["first", "last", "time", "lent", "had", "free", "offer", "rows", "fixed", "forget", "take", "fix", "out", "come", "in_use", "keep_on", "give_back", "holders"]
  tname := "_law_told"
  tfid := 17
  tcs := [(1, [97, 100, 100, 114, 101, 115, 115]), (3, [99, 111, 117, 110, 116]), (2, [102, 114, 97, 109, 101]), (4, [114, 111, 119]), (5, [110, 111, 32, 114, 111, 117, 116, 101]), (6, [110, 111, 32, 115, 117, 99, 104]), (7, [114, 101, 102, 117, 115, 101, 100]), (8, [108, 97, 114, 103, 101]), (9, [116, 101, 120, 116])]
def pk : Pk := ⟨[d0, d1, d2, d3, d4, d5, d6, d7, d8, d9, d10, d11, d12, d13, d14, d15, d16, d17, d18, d19, d20, d21], cls, sub, T⟩
theorem good : pk.good = true := by kernel_rfl
end L

end

section
set_option Elab.async false
set_option linter.all false
set_option maxRecDepth 100000
set_option maxHeartbeats 0
namespace L
open PySem PySem.W PySem.Calls PyProof.Rows
abbrev R : OpenRow := OpenLaw.row PySem.Challenge.rw_nethall_k09_leases
abbrev qv : Program := view R.prog [23]
def names : List PySem.Str := (["NetFault", "BadAddress", "BadFrame", "BadCount", "BadRow", "NoRoute", "NoSuch", "Refused", "TooLarge", "BadText", "Lender", "asks_again", "Gate", "_law_dice", "_law_roll", "_law_rounds", "_law_told", "_law_cases1", "_law_wrong", "_law_rest1"] : List PySem.Str)
abbrev hk : PySem.W.Hook := He.hookX 4 pk.fa pk.fn [] pk.tf pk.ex
def ob (s : PySem.W.SharedT) : He.AlX := He.obsX 4 pk.fa pk.fn [] pk.tf pk.ex (HandSHeadRun.getT s)
theorem ob_eq (s : PySem.W.SharedT) : ob s = hk.obs s.abs := He.obsX_eq (HandSHeadRun.getT_eq s)
theorem run (w : World) : HandSHeadRun.RunEq R qv hk ob 6000 names w := by
  intro os
  kernel_rfl
end L

end

section
set_option Elab.async false
set_option linter.all false
set_option maxRecDepth 100000
set_option maxHeartbeats 0
namespace L
open Mn
theorem pgf : PgF pk.pg := ⟨rfl, rfl, rfl, rfl, rfl, rfl, rfl, rfl, rfl, rfl, rfl, rfl, rfl, rfl, rfl, rfl, rfl, rfl, rfl, rfl, rfl, rfl, rfl, rfl, rfl, rfl, rfl, rfl, rfl, rfl, rfl, rfl, rfl, rfl, rfl, rfl, rfl, rfl, rfl, rfl, rfl, rfl, rfl, rfl, rfl, rfl, rfl, rfl, rfl, rfl, rfl, rfl, rfl, rfl, rfl, rfl, rfl, rfl, rfl, rfl, rfl, rfl, rfl, rfl, rfl, rfl, rfl, rfl, rfl, rfl, rfl, rfl, rfl, rfl, rfl, rfl, rfl, rfl, rfl, rfl, rfl, rfl, rfl, rfl, rfl, rfl, rfl, rfl, rfl, rfl, rfl, rfl, rfl, rfl, rfl, rfl, rfl, rfl, rfl, rfl, rfl, rfl, rfl, rfl, rfl, rfl, rfl, rfl, rfl, rfl, rfl, rfl, rfl, rfl, rfl, rfl, rfl, rfl, rfl, rfl, rfl, rfl, rfl, rfl, rfl, rfl, rfl, rfl, rfl, rfl, rfl, rfl, rfl, rfl, rfl, rfl, rfl, rfl, rfl, rfl, rfl, rfl, rfl, rfl, rfl, rfl, rfl⟩
theorem math : Holds' pk 12 21 63 := by
  intro ns _ _
  obtain ⟨r, s', h1, h2⟩ := wp_iff.mp (law_wp pgf (j := 0) (s := sto0) (ns := ns) rfl)
  exact ⟨s', by rw [h1, h2]⟩
end L
open PySem PySem.W PySem.Calls PyProof.Rows Mn
theorem PySem.Challenge.cw_nethall_k09_leases_holds : PySem.Challenge.rw_nethall_k09_leases.Holds := by
  w_on; o_law
  refine HandSHeadRun.head_any (r := OpenLaw.row PySem.Challenge.rw_nethall_k09_leases) (q := view (OpenLaw.row PySem.Challenge.rw_nethall_k09_leases).prog [23]) (H := L.hk) (ob := L.ob) (M := 6000) (loose := L.names) (d := HandSHeadRun.topDef (OpenLaw.row PySem.Challenge.rw_nethall_k09_leases).prog 23) (kwd := []) L.ob_eq
    (by kernel_rfl) (fun s => by kernel_rfl) L.run (by kernel_rfl) (by kernel_rfl) (by kernel_rfl) (by rfl) (by first | assumption | decide +kernel) (by decide +kernel) ⟨rfl, rfl, rfl, rfl, rfl, by decide +kernel⟩ ?hw ?hc
  case hw => w_witness2
  case hc =>
    refine LamX.walk_ofTsE (l := PySem.Challenge.rw_nethall_k09_leases) (n := 63) (k := 16) (x := "script") (CX := fun w => L2.CX (PySem.Challenge.rw_nethall_k09_leases).prog w) rfl (by decide) (by kernel_rfl) ⟨rfl, by decide, by decide⟩ ?F (fun _ _ _ _ _ ⟨_, _, _, _, _, _, _, _, _, _, _, _, z⟩ => z)
    intro w mg fa h Y GN hmg0
    obtain ⟨K, KX, c⟩ := Y
    have hmg : mg ("law" : PySem.Str) = some (.ref fa) := by
      have e : (HandSHeadRun.topDef (OpenLaw.row PySem.Challenge.rw_nethall_k09_leases).prog 23).name = ("law" : PySem.Str) := by kernel_rfl
      rw [← e]
      exact hmg0
    exact ⟨K, KX, law_at L.good (lf := 21) (k := 12) (by kernel_rfl) (by kernel_rfl) L.math KX GN c hmg⟩

end
