import PyProof.Rows.All
import Wide.All
import OpenK.AllK
import Wide.FinOn
import PyProof.EqAt
import PyProof.EqKinds
import PyProof.TupleCall
import KE.KStateDown
import HandS.Base
import HandS.Call
import HandS.List
import HandS.Comp
import HandS.Ends
import HandS.Dict
import HandS.Iter
import HandS.Text
import HandS.Exc
import HandS.TryOnly
import HandS.Words
import HandS.WordsList
import HandS.WordsDict
import HandS.WordsExc
import HandS.Flow
import HandS.IsInst
import HandS.ExcOwn
import HandS.TupLe
import HandS.Deep
import HandS.Strs
import HandS.Conv
import HandS.Style
import HandS.DictComp
import HandS.Defaults
import PyProof.Rows.SortShellAny
import PyProof.Rows.SortShell
import HandS.Head0
import HandS.Head1
import HandS.Head2
import HandS.HeadEnd
import HandS.HeadHook1
import HandS.HeadHook2
import KE.GoesZip
import KE.GoesMore
import KE.KItemsList
import HandS.Zip0
import PySem.Challenge.RW_leastdoubt_k01_forms_of_any_values
set_option Elab.async false
set_option linter.all false
set_option maxRecDepth 100000
set_option maxHeartbeats 2000000
/-! DL: a layer of plain data over HandS: values without addresses, cells for what may change, what a piece of the text computes as a function. -/
namespace DL
open PySem PySem.Spec PyProof.Rows L2

/-! ### values, cells, states -/
inductive Wd where
  | d (x : PyData) | ref (n : Nat) | tup (xs : List Wd) | rol (xs : List Wd) | v (x : V)
instance : Inhabited Wd := ⟨.d .none⟩
inductive Cell where
  | lst (xs : List Wd) | dct (kvs : List (PyData × Wd)) | ins (c : Str) (fs : List (Str × Wd))
mutual
def Wd.lt (k : Nat) : Wd → Bool
  | .d _ => true
  | .ref n => decide (n < k)
  | .tup xs => Wd.ltAll k xs
  | .rol xs => Wd.ltAll k xs
  | .v _ => true
def Wd.ltAll (k : Nat) : List Wd → Bool
  | [] => true
  | x :: xs => Wd.lt k x && Wd.ltAll k xs
end
def Cell.lt (k : Nat) : Cell → Bool
  | .lst xs => Wd.ltAll k xs
  | .dct kvs => Wd.ltAll k (kvs.map (·.2))
  | .ins _ fs => Wd.ltAll k (fs.map (·.2))
/-- the cells; for each scope that is open: where it began, which older cells have got a reference since -/
structure Mm where
  cells : List Cell
  stk : List (Nat × List Nat)
structure Ex where
  cls : Str
  fs : List (Str × Wd)
inductive Rs (α : Type) where
  | ok (a : α) (m : Mm) | exc (x : Ex) (m : Mm) | stuck
def Rs.bind {α β : Type} : Rs α → (α → Mm → Rs β) → Rs β
  | .ok a m, k => k a m
  | .exc x m, _ => .exc x m
  | .stuck, _ => .stuck
@[simp] theorem Rs.bind_ok {α β : Type} (a : α) (m : Mm) (k : α → Mm → Rs β) : (Rs.ok a m).bind k = k a m := rfl
@[simp] theorem Rs.bind_exc {α β : Type} (x : Ex) (m : Mm) (k : α → Mm → Rs β) : (Rs.exc x m).bind k = .exc x m := rfl
@[simp] theorem Rs.bind_stuck {α β : Type} (k : α → Mm → Rs β) : (Rs.stuck : Rs α).bind k = .stuck := rfl
abbrev Env := List (Option Wd)
abbrev Em (α : Type) := Env → Mm → Rs α
inductive Fl where
  | nx | rt (w : Wd) | bk | ct
inductive Sr where
  | go (f : Fl) (e : Env) (m : Mm) | exc (x : Ex) (e : Env) (m : Mm) | stuck
abbrev Sm := Env → Mm → Sr

/-! ### what stands for what -/
section
variable (K : PySem.W.Frag)
mutual
inductive RelD (H : Hp) : PyData → V → Prop where
  | non : RelD H .none .non
  | bl (b : Bool) : RelD H (.bool b) (.bl b)
  | int (i : Int) : RelD H (.int i) (.int i)
  | str (x : Str) : RelD H (.str x) (.str x)
  | tup {a : Addr} {vs : List V} {ds : List PyData} : SqT K H a vs → RelDs H ds vs → RelD H (.tuple ds) (.ref a)
inductive RelDs (H : Hp) : List PyData → List V → Prop where
  | nil : RelDs H [] []
  | cons {d : PyData} {ds : List PyData} {v : V} {vs : List V} : RelD H d v → RelDs H ds vs → RelDs H (d :: ds) (v :: vs)
end
/-- a list that is only read: the script -/
def Rol (H : Hp) (a : Addr) (vs : List V) : Prop := (∃ o, H a = some (.frz o (.lst vs))) ∨
  ∃ (o : Obj) (its : Array Value) (n : Nat), K.lookup a = some o ∧ o.cls = .type "list" ∧ o.dict = none ∧ o.data = .seq its n ∧ its.size ≤ sizeLine ∧ Vals vs its.toList
mutual
inductive RelW (ι : List Addr) (H : Hp) : Wd → V → Prop where
  | d {x : PyData} {v : V} : RelD K H x v → RelW ι H (.d x) v
  | ref {n : Nat} {a : Addr} : ι[n]? = some a → RelW ι H (.ref n) (.ref a)
  | tup {a : Addr} {vs : List V} {ws : List Wd} : SqT K H a vs → RelWs ι H ws vs → RelW ι H (.tup ws) (.ref a)
  | rol {a : Addr} {vs : List V} {ws : List Wd} : Rol K H a vs → RelWs ι H ws vs → RelW ι H (.rol ws) (.ref a)
  | v (x : V) : RelW ι H (.v x) x
inductive RelWs (ι : List Addr) (H : Hp) : List Wd → List V → Prop where
  | nil : RelWs ι H [] []
  | cons {w : Wd} {ws : List Wd} {v : V} {vs : List V} : RelW ι H w v → RelWs ι H ws vs → RelWs ι H (w :: ws) (v :: vs)
end
/-- a dict's pairs: keys that are ints and texts -/
def keyD : Key → PyData
  | .inl i => .int i
  | .inr x => .str x
def KvOk (ι : List Addr) (H : Hp) : List (PyData × Wd) → List (Key × V) → Prop
  | [], [] => True
  | (d, w) :: r, (k, v) :: r' => d = keyD k ∧ RelW K ι H w v ∧ KvOk ι H r r'
  | _, _ => False
def FsOk (ι : List Addr) (H : Hp) : List (Str × Wd) → List (Str × V) → Prop
  | [], [] => True
  | (f, w) :: r, (g, v) :: r' => f = g ∧ RelW K ι H w v ∧ FsOk ι H r r'
  | _, _ => False
def CellOk (ι : List Addr) (H : Hp) (a : Addr) : Cell → Prop
  | .lst xs => ∃ vs, H a = some (.lst vs) ∧ RelWs K ι H xs vs
  | .dct kvs => ∃ ks, H a = some (.dK ks) ∧ KvOk K ι H kvs ks
  | .ins c fs => ∃ (C dx : Addr) (gs : List (Str × V)), PySem.W.nsIn K mainGlobals c = some (some (.ref C)) ∧ H a = some (.ins C dx gs) ∧ FsOk K ι H fs gs
structure MemOk (ι : List Addr) (m : Mm) (H : Hp) : Prop where
  len : ι.length = m.cells.length
  nd : ι.Nodup
  cell : ∀ (n : Nat) a c, ι[n]? = some a → m.cells[n]? = some c → CellOk K ι H a c
  top : ∀ p ∈ m.stk, p.1 ≤ m.cells.length
  ord : (m.stk.map (·.1)).Pairwise (fun x y => y ≤ x)
  clean : ∀ p ∈ m.stk, ∀ (n : Nat) c, n < p.1 → n ∉ p.2 → m.cells[n]? = some c → c.lt p.1 = true
def EnvOk (ι : List Addr) (H : Hp) (env : Env) (σ : L2.St) : Prop :=
  env.length = σ.length ∧ ∀ (i : Nat) w, env[i]? = some (some w) → ∃ v, σ[i]? = some (some v) ∧ RelW K ι H w v
end
/-- later: no more is forgotten, what is new was free, what is no cell stays -/
structure Stp (ι : List Addr) (H : Hp) (ι' : List Addr) (H' : Hp) : Prop where
  pre : ι <+: ι'
  new : ∀ a ∈ ι', a ∉ ι → H a = none
  fix : ∀ a o, H a = some o → a ∉ ι → H' a = some o
theorem Stp.refl {ι : List Addr} {H : Hp} : Stp ι H ι H := ⟨List.prefix_refl ι, fun _ h n => absurd h n, fun _ _ h _ => h⟩
theorem Stp.trans {ι ι1 ι2 : List Addr} {H H1 H2 : Hp} (a : Stp ι H ι1 H1) (b : Stp ι1 H1 ι2 H2) : Stp ι H ι2 H2 where
  pre := a.pre.trans b.pre
  new := fun x hx n => by
    by_cases h : x ∈ ι1
    · exact a.new x h n
    · have e := b.new x hx h
      cases q : H x with
      | none => rfl
      | some o => rw [a.fix x o q n] at e; cases e
  fix := fun x o h n => by
    have h1 := a.fix x o h n
    by_cases h2 : x ∈ ι1
    · have := a.new x h2 n
      rw [h] at this; cases this
    · exact b.fix x o h1 h2

section
variable {K : PySem.W.Frag} {ι ι' : List Addr} {H H' : Hp}
def Apart (ι : List Addr) (H : Hp) : Prop := ∀ a ∈ ι, (∀ xs, ¬ Rd H a (.tup xs)) ∧ (∀ o u, H a ≠ some (.frz o u)) ∧ H a ≠ none
theorem CellOk.apart {a : Addr} {c : Cell} (h : CellOk K ι H a c) : (∀ xs, ¬ Rd H a (.tup xs)) ∧ (∀ o u, H a ≠ some (.frz o u)) ∧ H a ≠ none := by
  have key : ∀ u, H a = some u → (∀ xs, u ≠ .tup xs) → (∀ o w, u ≠ .frz o w) → (∀ xs, ¬ Rd H a (.tup xs)) ∧ (∀ o u, H a ≠ some (.frz o u)) ∧ H a ≠ none := fun u e n1 n2 => by
    refine ⟨fun xs r => ?_, fun o w r => ?_, fun r => ?_⟩
    · rcases r with r | ⟨o, r⟩
      · rw [e] at r; exact n1 xs (Option.some.inj r)
      · rw [e] at r; exact n2 _ _ (Option.some.inj r)
    · rw [e] at r; exact n2 _ _ (Option.some.inj r)
    · rw [e] at r; cases r
  cases c with
  | lst ys => obtain ⟨vs, e, _⟩ := h; exact key _ e (fun _ z => by cases z) (fun _ _ z => by cases z)
  | dct kvs => obtain ⟨vs, e, _⟩ := h; exact key _ e (fun _ z => by cases z) (fun _ _ z => by cases z)
  | ins c fs => obtain ⟨_, _, vs, _, e, _⟩ := h; exact key _ e (fun _ z => by cases z) (fun _ _ z => by cases z)
theorem MemOk.apart {m : Mm} (h : MemOk K ι m H) : Apart ι H := fun a ha => by
  obtain ⟨n, hn, e⟩ := List.getElem_of_mem ha
  have h1 : ι[n]? = some a := by rw [List.getElem?_eq_getElem hn, e]
  have hn' : n < m.cells.length := by rw [← h.len]; exact hn
  exact (h.cell n a _ h1 (List.getElem?_eq_getElem hn')).apart
theorem MemOk.new {m : Mm} {p : Addr} (h : MemOk K ι m H) (hp : H p = none) : p ∉ ι := fun hi => (h.apart p hi).2.2 hp
theorem rol_step {a : Addr} {vs : List V} (ap : Apart ι H) (st : Stp ι H ι' H') (h : Rol K H a vs) : Rol K H' a vs := by
  rcases h with ⟨o, h⟩ | h
  · exact .inl ⟨o, st.fix _ _ h fun z => (ap a z).2.1 _ _ h⟩
  · exact .inr h
theorem Rol.sqL {a : Addr} {vs : List V} (h : Rol K H a vs) : SqL K H a vs := by
  rcases h with ⟨o, h⟩ | h
  · exact .inl (.inr ⟨o, h⟩)
  · exact .inr h
theorem sqT_step {a : Addr} {vs : List V} (ap : Apart ι H) (st : Stp ι H ι' H') (h : SqT K H a vs) : SqT K H' a vs := by
  rcases h with h | h
  · have n : a ∉ ι := fun z => (ap a z).1 vs h
    rcases h with h | ⟨o, h⟩
    · exact .inl (.inl (st.fix _ _ h n))
    · exact .inl (.inr ⟨o, st.fix _ _ h n⟩)
  · exact .inr h
mutual
theorem RelD.step (ap : Apart ι H) (st : Stp ι H ι' H') : ∀ {d : PyData} {v : V}, RelD K H d v → RelD K H' d v
  | _, _, .non => .non
  | _, _, .bl b => .bl b
  | _, _, .int i => .int i
  | _, _, .str x => .str x
  | _, _, .tup h hs => .tup (sqT_step ap st h) (RelDs.step ap st hs)
theorem RelDs.step (ap : Apart ι H) (st : Stp ι H ι' H') : ∀ {d : List PyData} {v : List V}, RelDs K H d v → RelDs K H' d v
  | _, _, .nil => .nil
  | _, _, .cons h hs => .cons (RelD.step ap st h) (RelDs.step ap st hs)
end
theorem pre_get {n : Nat} {a : Addr} (p : ι <+: ι') (h : ι[n]? = some a) : ι'[n]? = some a := by
  obtain ⟨t, rfl⟩ := p
  rw [List.getElem?_append_left (List.getElem?_eq_some_iff.mp h).1]
  exact h
mutual
theorem RelW.step (ap : Apart ι H) (st : Stp ι H ι' H') : ∀ {d : Wd} {v : V}, RelW K ι H d v → RelW K ι' H' d v
  | _, _, .d h => .d (h.step ap st)
  | _, _, .ref h => .ref (pre_get st.pre h)
  | _, _, .tup h hs => .tup (sqT_step ap st h) (RelWs.step ap st hs)
  | _, _, .rol h hs => .rol (rol_step ap st h) (RelWs.step ap st hs)
  | _, _, .v x => .v x
theorem RelWs.step (ap : Apart ι H) (st : Stp ι H ι' H') : ∀ {d : List Wd} {v : List V}, RelWs K ι H d v → RelWs K ι' H' d v
  | _, _, .nil => .nil
  | _, _, .cons h hs => .cons (RelW.step ap st h) (RelWs.step ap st hs)
end
theorem KvOk.step (ap : Apart ι H) (st : Stp ι H ι' H') : ∀ {d : List (PyData × Wd)} {v : List (Key × V)}, KvOk K ι H d v → KvOk K ι' H' d v
  | [], [], _ => True.intro
  | (_, _) :: _, (_, _) :: _, ⟨h1, h2, h3⟩ => ⟨h1, h2.step ap st, KvOk.step ap st h3⟩
  | [], _ :: _, h => h.elim
  | _ :: _, [], h => h.elim
theorem FsOk.step (ap : Apart ι H) (st : Stp ι H ι' H') : ∀ {d : List (Str × Wd)} {v : List (Str × V)}, FsOk K ι H d v → FsOk K ι' H' d v
  | [], [], _ => True.intro
  | (_, _) :: _, (_, _) :: _, ⟨h1, h2, h3⟩ => ⟨h1, h2.step ap st, FsOk.step ap st h3⟩
  | [], _ :: _, h => h.elim
  | _ :: _, [], h => h.elim
theorem EnvOk.step {env : Env} {σ : L2.St} (ap : Apart ι H) (st : Stp ι H ι' H') (h : EnvOk K ι H env σ) : EnvOk K ι' H' env σ :=
  ⟨h.1, fun i w e => let ⟨v, e1, r⟩ := h.2 i w e; ⟨v, e1, r.step ap st⟩⟩
/-- a cell that itself is as it was -/
theorem CellOk.step {a : Addr} {c : Cell} (ap : Apart ι H) (st : Stp ι H ι' H') (ha : H' a = H a) (h : CellOk K ι H a c) : CellOk K ι' H' a c := by
  cases c with
  | lst xs => obtain ⟨vs, e, r⟩ := h; exact ⟨vs, ha.trans e, r.step ap st⟩
  | dct kvs => obtain ⟨ks, e, r⟩ := h; exact ⟨ks, ha.trans e, r.step ap st⟩
  | ins c fs => obtain ⟨C, dx, gs, e0, e, r⟩ := h; exact ⟨C, dx, gs, e0, ha.trans e, r.step ap st⟩

/-! ### lists of values -/
theorem RelWs.length : ∀ {ws : List Wd} {vs : List V}, RelWs K ι H ws vs → ws.length = vs.length
  | _, _, .nil => rfl
  | _, _, .cons _ h => congrArg (· + 1) (RelWs.length h)
theorem RelDs.length : ∀ {ws : List PyData} {vs : List V}, RelDs K H ws vs → ws.length = vs.length
  | _, _, .nil => rfl
  | _, _, .cons _ h => congrArg (· + 1) (RelDs.length h)
theorem RelWs.get : ∀ {ws : List Wd} {vs : List V} {i : Nat} {w : Wd}, RelWs K ι H ws vs → ws[i]? = some w → ∃ v, vs[i]? = some v ∧ RelW K ι H w v
  | _, _, i, w, .nil, e => by simp at e
  | _, _, 0, w, .cons h _, e => by simp at e; subst e; exact ⟨_, rfl, h⟩
  | _, _, i + 1, w, .cons _ h, e => by
    obtain ⟨v, e1, r⟩ := RelWs.get (i := i) (w := w) h (by simpa using e)
    exact ⟨v, by simpa using e1, r⟩
theorem RelWs.get' : ∀ {ws : List Wd} {vs : List V} {i : Nat} {v : V}, RelWs K ι H ws vs → vs[i]? = some v → ∃ w, ws[i]? = some w ∧ RelW K ι H w v
  | _, _, i, w, .nil, e => by simp at e
  | _, _, 0, w, .cons h _, e => by simp at e; subst e; exact ⟨_, rfl, h⟩
  | _, _, i + 1, w, .cons _ h, e => by
    obtain ⟨v, e1, r⟩ := RelWs.get' (i := i) (v := w) h (by simpa using e)
    exact ⟨v, by simpa using e1, r⟩
theorem RelWs.append : ∀ {ws ws' : List Wd} {vs vs' : List V}, RelWs K ι H ws vs → RelWs K ι H ws' vs' → RelWs K ι H (ws ++ ws') (vs ++ vs')
  | _, _, _, _, .nil, h => h
  | _, _, _, _, .cons h hs, h' => .cons h (RelWs.append hs h')
theorem RelWs.take : ∀ {ws : List Wd} {vs : List V} (n : Nat), RelWs K ι H ws vs → RelWs K ι H (ws.take n) (vs.take n)
  | _, _, 0, _ => .nil
  | _, _, _ + 1, .nil => .nil
  | _, _, n + 1, .cons h hs => .cons h (RelWs.take n hs)
theorem RelWs.drop : ∀ {ws : List Wd} {vs : List V} (n : Nat), RelWs K ι H ws vs → RelWs K ι H (ws.drop n) (vs.drop n)
  | _, _, 0, h => h
  | _, _, _ + 1, .nil => .nil
  | _, _, n + 1, .cons h hs => RelWs.drop n hs
theorem RelWs.set {w : Wd} {v : V} (r : RelW K ι H w v) : ∀ {ws : List Wd} {vs : List V} (n : Nat), RelWs K ι H ws vs → RelWs K ι H (ws.set n w) (vs.set n v)
  | _, _, _, .nil => .nil
  | _, _, 0, .cons h hs => .cons r hs
  | _, _, n + 1, .cons h hs => .cons h (RelWs.set r n hs)
theorem RelDs.ws : ∀ {ds : List PyData} {vs : List V}, RelDs K H ds vs → RelWs K ι H (ds.map .d) vs
  | _, _, .nil => .nil
  | _, _, .cons h hs => .cons (.d h) (RelDs.ws hs)
theorem RelWs.ds : ∀ {ds : List PyData} {vs : List V}, RelWs K ι H (ds.map .d) vs → RelDs K H ds vs
  | [], _, h => by cases h; exact .nil
  | d :: ds, _, h => by
    cases h with
    | cons h hs => cases h with
      | d h => exact .cons h (RelWs.ds hs)
/-! ### tuples: data where they hold no reference -/
def allD : List Wd → Option (List PyData)
  | [] => some []
  | .d x :: r => (allD r).map (x :: ·)
  | _ :: _ => none
theorem allD_eq : ∀ {ws : List Wd} {ds : List PyData}, allD ws = some ds → ws = ds.map .d
  | [], ds, h => by cases h; rfl
  | .d x :: r, ds, h => by
    cases q : allD r with
    | none => simp [allD, q] at h
    | some es =>
      simp [allD, q] at h
      subst h
      rw [allD_eq q]; rfl
  | .ref _ :: _, _, h => by cases h
  | .tup _ :: _, _, h => by cases h
  | .rol _ :: _, _, h => by cases h
  | .v _ :: _, _, h => by cases h
@[simp] theorem allD_map : ∀ ds : List PyData, allD (ds.map .d) = some ds
  | [] => rfl
  | d :: ds => by simp [allD, allD_map ds]
def mkTup (ws : List Wd) : Wd := match allD ws with
  | some ds => .d (.tuple ds)
  | none => .tup ws
@[simp] theorem mkTup_map (ds : List PyData) : mkTup (ds.map .d) = .d (.tuple ds) := by simp [mkTup]
theorem mkTup_ok {a : Addr} {vs : List V} {ws : List Wd} (h : SqT K H a vs) (r : RelWs K ι H ws vs) : RelW K ι H (mkTup ws) (.ref a) := by
  unfold mkTup
  cases q : allD ws with
  | none => exact .tup h r
  | some ds =>
    rw [allD_eq q] at r
    exact .d (.tup h r.ds)
/-- the items of a tuple -/
def tupOf : Wd → Option (List Wd)
  | .d (.tuple ds) => some (ds.map .d)
  | .tup ws => some ws
  | _ => none
theorem tupOf_ok {w : Wd} {ws : List Wd} {v : V} (e : tupOf w = some ws) (r : RelW K ι H w v) : ∃ a vs, v = .ref a ∧ SqT K H a vs ∧ RelWs K ι H ws vs := by
  cases r with
  | d h =>
    cases h with
    | tup h hs => cases e; exact ⟨_, _, rfl, h, hs.ws⟩
    | _ => cases e
  | tup h hs => cases e; exact ⟨_, _, rfl, h, hs⟩
  | ref _ => cases e
  | rol _ _ => cases e
  | v _ => cases e
end
end DL
set_option Elab.async false
set_option linter.all false
set_option maxRecDepth 100000
set_option maxHeartbeats 2000000
namespace DL
open PySem PySem.Spec PyProof.Rows L2

/-! ### the end of a piece -/
section
variable (K : PySem.W.Frag)
def ExOk (ι : List Addr) (H : Hp) (x : Ex) (cls : Value) (d : Option Addr) : Prop :=
  ∃ C, PySem.W.nsIn K mainGlobals x.cls = some (some (.ref C)) ∧ cls = .ref C ∧
    ((x.fs = [] ∧ d = none) ∨ ∃ dd gs, d = some dd ∧ H dd = some (.xd gs) ∧ FsOk K ι H x.fs gs)
def Post {α β : Type} (W : L2.WX) (rel : List Addr → Hp → α → β → Prop) (ι : List Addr) (H : Hp) (σ : L2.St) (Q : β → Hp → Prop) : Rs α → Prop
  | .ok a m => ∀ ι' H' b, Stp ι H ι' H' → MemOk K ι' m H' → rel ι' H' a b → Q b H'
  | .exc x m => ∀ ι' H' cls d, Stp ι H ι' H' → MemOk K ι' m H' → ExOk K ι' H' x cls d → W cls d σ H'
  | .stuck => False
def tG {α β : Type} (W : L2.WX) (rel : List Addr → Hp → α → β → Prop) (f : Em α) : L2.St → Hp → (β → Hp → Prop) → Prop := fun σ H Q =>
  ∃ ι env m, EnvOk K ι H env σ ∧ MemOk K ι m H ∧ Post K W rel ι H σ Q (f env m)
abbrev tE (W : L2.WX) (f : Em Wd) : TE := tG K W (RelW K) f
abbrev tT (W : L2.WX) (f : Em Bool) : TT := tG K W (fun _ _ a b => a = b) f
abbrev tA (W : L2.WX) (f : Em (List Wd)) : TA := tG K W (RelWs K) f
def PostS (W : L2.WX) (D : Ends) (ι : List Addr) (H : Hp) : Sr → Prop
  | .go .nx env m => ∀ ι' H' σ, Stp ι H ι' H' → MemOk K ι' m H' → EnvOk K ι' H' env σ → D.nx σ H'
  | .go .bk env m => ∀ ι' H' σ, Stp ι H ι' H' → MemOk K ι' m H' → EnvOk K ι' H' env σ → D.bk σ H'
  | .go .ct env m => ∀ ι' H' σ, Stp ι H ι' H' → MemOk K ι' m H' → EnvOk K ι' H' env σ → D.ct σ H'
  | .go (.rt w) env m => ∀ ι' H' v, Stp ι H ι' H' → MemOk K ι' m H' → RelW K ι' H' w v → D.rt v H'
  | .exc x env m => ∀ ι' H' σ cls d, Stp ι H ι' H' → MemOk K ι' m H' → EnvOk K ι' H' env σ → ExOk K ι' H' x cls d → W cls d σ H'
  | .stuck => False
def tS (W : L2.WX) (f : Sm) : TS := fun D σ H => ∃ ι env m, EnvOk K ι H env σ ∧ MemOk K ι m H ∧ PostS K W D ι H (f env m)
end
abbrev W0 : L2.WX := fun _ _ _ _ => False
section
variable {K : PySem.W.Frag} {W : L2.WX} {ι ι' ι1 : List Addr} {H H' H1 : Hp} {σ : L2.St}
theorem Post.step {α β : Type} {rel : List Addr → Hp → α → β → Prop} {Q : β → Hp → Prop} {r : Rs α} (st : Stp ι H ι1 H1) (h : Post K W rel ι H σ Q r) : Post K W rel ι1 H1 σ Q r := by
  cases r with
  | ok a m => exact fun ι' H' b s mo r => h ι' H' b (st.trans s) mo r
  | exc x m => exact fun ι' H' c d s mo r => h ι' H' c d (st.trans s) mo r
  | stuck => exact h
theorem PostS.step {D : Ends} {r : Sr} (st : Stp ι H ι1 H1) (h : PostS K W D ι H r) : PostS K W D ι1 H1 r := by
  cases r with
  | go f e m =>
    cases f with
    | nx => exact fun ι' H' b s mo r => h ι' H' b (st.trans s) mo r
    | bk => exact fun ι' H' b s mo r => h ι' H' b (st.trans s) mo r
    | ct => exact fun ι' H' b s mo r => h ι' H' b (st.trans s) mo r
    | rt w => exact fun ι' H' b s mo r => h ι' H' b (st.trans s) mo r
  | exc x e m => exact fun ι' H' b c d s mo r => h ι' H' b c d (st.trans s) mo r
  | stuck => exact h
/-- a first part, then the rest -/
theorem Post.bind {α β γ δ : Type} {ra : List Addr → Hp → α → β → Prop} {rc : List Addr → Hp → γ → δ → Prop} {Q : δ → Hp → Prop} {P : β → Hp → Prop} {f : Em α} {k : α → Mm → Rs γ} {env : Env} {m : Mm}
    (eo : EnvOk K ι H env σ) (mo : MemOk K ι m H) (p : Post K W rc ι H σ Q ((f env m).bind k))
    (h : ∀ ι1 H1 a b m1, Stp ι H ι1 H1 → MemOk K ι1 m1 H1 → EnvOk K ι1 H1 env σ → ra ι1 H1 a b → Post K W rc ι1 H1 σ Q (k a m1) → P b H1) : tG K W ra f σ H P := by
  refine ⟨ι, env, m, eo, mo, ?_⟩
  cases e : f env m with
  | ok a m1 => rw [e] at p; exact fun ι1 H1 b st mo1 r => h ι1 H1 a b m1 st mo1 (eo.step mo.apart st) r (p.step st)
  | exc x m1 => rw [e] at p; exact p
  | stuck => rw [e] at p; exact p
/-- the state after an expression, then a statement's rest -/
theorem PostS.bind {α β : Type} {ra : List Addr → Hp → α → β → Prop} {D : Ends} {P : β → Hp → Prop} {f : Em α} {k : α → Mm → Sr} {env : Env} {m : Mm}
    (eo : EnvOk K ι H env σ) (mo : MemOk K ι m H) (p : PostS K W D ι H (match f env m with | .ok a m1 => k a m1 | .exc x m1 => .exc x env m1 | .stuck => .stuck))
    (h : ∀ ι1 H1 a b m1, Stp ι H ι1 H1 → MemOk K ι1 m1 H1 → EnvOk K ι1 H1 env σ → ra ι1 H1 a b → PostS K W D ι1 H1 (k a m1) → P b H1) : tG K W ra f σ H P := by
  refine ⟨ι, env, m, eo, mo, ?_⟩
  cases e : f env m with
  | ok a m1 => rw [e] at p; exact fun ι1 H1 b st mo1 r => h ι1 H1 a b m1 st mo1 (eo.step mo.apart st) r (p.step st)
  | exc x m1 =>
    rw [e] at p
    exact fun ι1 H1 c d st mo1 xo => p ι1 H1 σ c d st mo1 (eo.step mo.apart st) xo
  | stuck => rw [e] at p; exact p
/-- one that makes a new cell, one that changes nothing -/
theorem stp_new {p : Addr} {o : HO} (hp : H p = none) : Stp ι H (ι ++ [p]) (upd H p o) where
  pre := List.prefix_append _ _
  new := fun a ha n => by
    rcases List.mem_append.mp ha with h | h
    · exact absurd h n
    · rw [List.mem_singleton.mp h]; exact hp
  fix := fun a u h n => by rw [upd_ne (ne_of_none h hp)]; exact h
theorem stp_tup {p : Addr} {o : HO} (hp : H p = none) : Stp ι H ι (upd H p o) where
  pre := List.prefix_refl _
  new := fun a ha n => absurd ha n
  fix := fun a u h n => by rw [upd_ne (ne_of_none h hp)]; exact h
theorem stp_set {p : Addr} {o : HO} (hi : p ∈ ι) : Stp ι H ι (upd H p o) where
  pre := List.prefix_refl _
  new := fun a ha n => absurd ha n
  fix := fun a u h n => by
    rw [upd_ne (fun z => n (by rw [z]; exact hi))]; exact h
end
end DL
set_option Elab.async false
set_option linter.all false
set_option maxRecDepth 100000
set_option maxHeartbeats 2000000
namespace DL
open PySem PySem.Spec PyProof.Rows L2

/-! ### what may be done with the cells -/
def Mm.push (m : Mm) (c : Cell) : Mm := ⟨m.cells ++ [c], m.stk⟩
/-- the cell n is c from now on; pure: no older scope need be told -/
def Mm.put (m : Mm) (n : Nat) (c : Cell) (pure : Bool) : Mm := ⟨m.cells.set n c, if pure then m.stk else m.stk.map fun p => (p.1, n :: p.2)⟩
def Mm.openS (m : Mm) : Mm := ⟨m.cells, (m.cells.length, []) :: m.stk⟩
/-- a scope that began at n0 ends; held: what is still held lies below -/
def Mm.closeS (m : Mm) (n0 : Nat) (held : Bool) : Mm := match m.stk with
  | [] => m
  | (b, ds) :: r => if (decide (b = n0) && held && ds.all fun n => decide (n0 ≤ n) || (match m.cells[n]? with | some c => c.lt n0 | none => true)) = true then ⟨m.cells.take n0, r⟩ else ⟨m.cells, r⟩

section
variable {K : PySem.W.Frag} {ι ι' : List Addr} {H H' : Hp} {m : Mm}
theorem get_of {α : Type} {l : List α} {i : Nat} {x : α} (h : l[i]? = some x) : i < l.length := (List.getElem?_eq_some_iff.mp h).1
theorem nodup_get {α : Type} {l : List α} (hn : l.Nodup) {i j : Nat} {x : α} (a : l[i]? = some x) (b : l[j]? = some x) : i = j := by
  obtain ⟨h1, e1⟩ := List.getElem?_eq_some_iff.mp a
  obtain ⟨h2, e2⟩ := List.getElem?_eq_some_iff.mp b
  exact (List.getElem_inj hn).mp (e1.trans e2.symm)
theorem MemOk.push {c : Cell} {p : Addr} {o : HO} (mo : MemOk K ι m H) (hp : H p = none) (h : CellOk K (ι ++ [p]) (upd H p o) p c) : MemOk K (ι ++ [p]) (m.push c) (upd H p o) := by
  have hni := mo.new hp
  refine ⟨by simp [Mm.push, mo.len], ?_, fun n a c' h1 h2 => ?_, fun q hq => ?_, ?_, fun q hq n c' hn hd hc => ?_⟩
  · rw [List.nodup_append]
    exact ⟨mo.nd, by simp, fun a ha b hb e => hni (by rw [List.mem_singleton.mp hb] at e; rw [← e]; exact ha)⟩
  · by_cases hlt : n < ι.length
    · rw [List.getElem?_append_left hlt] at h1
      have h2' : m.cells[n]? = some c' := by
        have : (m.cells ++ [c])[n]? = some c' := h2
        rwa [List.getElem?_append_left (by rw [← mo.len]; exact hlt)] at this
      have hne : a ≠ p := fun e => hni (by rw [← e]; exact List.mem_of_getElem? h1)
      exact (mo.cell n a c' h1 h2').step mo.apart (stp_new hp) (upd_ne hne)
    · have hl := get_of h1
      rw [List.length_append, List.length_singleton] at hl
      have e : n = ι.length := by omega
      subst e
      have e1 : a = p := by simpa using h1.symm
      have e2 : c' = c := by
        have : (m.cells ++ [c])[ι.length]? = some c' := h2
        rw [mo.len] at this
        simpa using this.symm
      subst e1; subst e2
      exact h
  · have := mo.top q hq
    show q.1 ≤ (m.cells ++ [c]).length
    rw [List.length_append]; omega
  · exact mo.ord
  · have ht := mo.top q hq
    have hc' : (m.cells ++ [c])[n]? = some c' := hc
    rw [List.getElem?_append_left (by omega)] at hc'
    exact mo.clean q hq n c' hn hd hc'
/-- new values beside: nothing that is tracked changes -/
theorem MemOk.stay {ι' : List Addr} (mo : MemOk K ι m H) (st : Stp ι H ι H') (h : ∀ a ∈ ι, H' a = H a) : MemOk K ι m H' :=
  ⟨mo.len, mo.nd, fun n a c h1 h2 => (mo.cell n a c h1 h2).step mo.apart st (h a (List.mem_of_getElem? h1)), mo.top, mo.ord, mo.clean⟩
theorem MemOk.tup {p : Addr} {xs : List V} (mo : MemOk K ι m H) (hp : H p = none) : MemOk K ι m (upd H p (.tup xs)) :=
  mo.stay (ι' := ι) (stp_tup hp) fun a ha => upd_ne fun e => mo.new hp (by rw [← e]; exact ha)
theorem MemOk.put {c c' : Cell} {n : Nat} {a : Addr} {o : HO} {pure : Bool} (mo : MemOk K ι m H) (hn : ι[n]? = some a) (hc : m.cells[n]? = some c) (h : CellOk K ι (upd H a o) a c')
    (hp : pure = true → ∀ b, c.lt b = true → c'.lt b = true) : MemOk K ι (m.put n c' pure) (upd H a o) := by
  have ha : a ∈ ι := List.mem_of_getElem? hn
  refine ⟨by simp [Mm.put, mo.len], mo.nd, fun n' a' d h1 h2 => ?_, fun q hq => ?_, ?_, fun q hq n' d hlt hd hq2 => ?_⟩
  · have h2' : (m.cells.set n c')[n']? = some d := h2
    by_cases e : n' = n
    · subst e
      rw [h1] at hn; cases hn
      rw [List.getElem?_set_self (by rw [← mo.len]; exact get_of h1)] at h2'
      cases h2'
      exact h
    · rw [List.getElem?_set_ne (Ne.symm e)] at h2'
      have hne : a' ≠ a := fun z => e (nodup_get mo.nd h1 (by rw [z]; exact hn))
      exact (mo.cell n' a' d h1 h2').step mo.apart (stp_set ha) (upd_ne hne)
  · show q.1 ≤ (m.cells.set n c').length
    rw [List.length_set]
    have hq' : q ∈ (if pure then m.stk else m.stk.map fun p => (p.1, n :: p.2)) := hq
    cases pure with
    | true => exact mo.top q hq'
    | false =>
      obtain ⟨q0, h0, e⟩ := List.mem_map.mp hq'
      subst e
      exact mo.top q0 h0
  · show ((if pure then m.stk else m.stk.map fun p => (p.1, n :: p.2)).map (·.1)).Pairwise _
    cases pure with
    | true => exact mo.ord
    | false =>
      rw [if_neg (by decide), List.map_map]
      exact mo.ord
  · have h2' : (m.cells.set n c')[n']? = some d := hq2
    have hq' : q ∈ (if pure then m.stk else m.stk.map fun p => (p.1, n :: p.2)) := hq
    cases pure with
    | true =>
      by_cases e : n' = n
      · subst e
        rw [List.getElem?_set_self (get_of hc)] at h2'
        cases h2'
        exact hp rfl _ (mo.clean q hq' n' c hlt hd hc)
      · rw [List.getElem?_set_ne (Ne.symm e)] at h2'
        exact mo.clean q hq' n' d hlt hd h2'
    | false =>
      obtain ⟨q0, h0, e0⟩ := List.mem_map.mp hq'
      subst e0
      have e : n' ≠ n := fun z => hd (by rw [z]; exact List.mem_cons_self)
      rw [List.getElem?_set_ne (Ne.symm e)] at h2'
      exact mo.clean q0 h0 n' d hlt (fun z => hd (List.mem_cons_of_mem _ z)) h2'
/-! ### scopes -/
mutual
theorem RelW.lt : ∀ {w : Wd} {v : V}, RelW K ι H w v → Wd.lt ι.length w = true
  | _, _, .d _ => rfl
  | _, _, .ref h => decide_eq_true (get_of h)
  | _, _, .tup _ h => RelWs.lt h
  | _, _, .rol _ h => RelWs.lt h
  | _, _, .v _ => rfl
theorem RelWs.lt : ∀ {w : List Wd} {v : List V}, RelWs K ι H w v → Wd.ltAll ι.length w = true
  | _, _, .nil => rfl
  | _, _, .cons h hs => by
    show (Wd.lt ι.length _ && Wd.ltAll ι.length _) = true
    rw [RelW.lt h, RelWs.lt hs]; rfl
end
theorem KvOk.lt : ∀ {d : List (PyData × Wd)} {v : List (Key × V)}, KvOk K ι H d v → Wd.ltAll ι.length (d.map (·.2)) = true
  | [], [], _ => rfl
  | (_, w) :: r, (_, _) :: _, ⟨_, h2, h3⟩ => by
    show (Wd.lt ι.length w && Wd.ltAll ι.length (r.map (·.2))) = true
    rw [h2.lt, KvOk.lt h3]; rfl
  | [], _ :: _, h => h.elim
  | _ :: _, [], h => h.elim
theorem FsOk.lt : ∀ {d : List (Str × Wd)} {v : List (Str × V)}, FsOk K ι H d v → Wd.ltAll ι.length (d.map (·.2)) = true
  | [], [], _ => rfl
  | (_, w) :: r, (_, _) :: _, ⟨_, h2, h3⟩ => by
    show (Wd.lt ι.length w && Wd.ltAll ι.length (r.map (·.2))) = true
    rw [h2.lt, FsOk.lt h3]; rfl
  | [], _ :: _, h => h.elim
  | _ :: _, [], h => h.elim
theorem CellOk.lt {a : Addr} {c : Cell} (h : CellOk K ι H a c) : c.lt ι.length = true := by
  cases c with
  | lst xs => obtain ⟨_, _, r⟩ := h; exact r.lt
  | dct xs => obtain ⟨_, _, r⟩ := h; exact r.lt
  | ins c xs => obtain ⟨_, _, _, _, _, r⟩ := h; exact r.lt
theorem MemOk.openS (mo : MemOk K ι m H) : MemOk K ι m.openS H := by
  refine ⟨mo.len, mo.nd, mo.cell, fun q hq => ?_, ?_, fun q hq n c hlt hd hc => ?_⟩
  · rcases List.mem_cons.mp hq with e | hq
    · subst e; exact Nat.le_refl _
    · exact mo.top q hq
  · show (m.cells.length :: m.stk.map (·.1)).Pairwise _
    refine List.pairwise_cons.mpr ⟨fun x hx => ?_, mo.ord⟩
    obtain ⟨q, hq, e⟩ := List.mem_map.mp hx
    subst e
    exact mo.top q hq
  · rcases List.mem_cons.mp hq with e | hq
    · subst e
      have hc' : m.cells[n]? = some c := hc
      have hn : n < ι.length := by rw [mo.len]; exact get_of hc'
      have := (mo.cell n _ c (List.getElem?_eq_getElem hn) hc').lt
      rw [mo.len] at this
      exact this
    · exact mo.clean q hq n c hlt hd hc
theorem take_get {α : Type} {l : List α} {b n : Nat} {x : α} (h : l[n]? = some x) (hn : n < b) : (l.take b)[n]? = some x := by
  rw [List.getElem?_take, if_pos hn]; exact h
mutual
theorem RelW.take {b : Nat} : ∀ {w : Wd} {v : V}, RelW K ι H w v → Wd.lt b w = true → RelW K (ι.take b) H w v
  | _, _, .d h, _ => .d h
  | _, _, .ref h, e => .ref (take_get h (of_decide_eq_true e))
  | _, _, .tup h hs, e => .tup h (RelWs.takeI hs e)
  | _, _, .rol h hs, e => .rol h (RelWs.takeI hs e)
  | _, _, .v x, _ => .v x
theorem RelWs.takeI {b : Nat} : ∀ {w : List Wd} {v : List V}, RelWs K ι H w v → Wd.ltAll b w = true → RelWs K (ι.take b) H w v
  | _, _, .nil, _ => .nil
  | _, _, .cons h hs, e => by
    have e' : (Wd.lt b _ && Wd.ltAll b _) = true := e
    rw [Bool.and_eq_true] at e'
    exact .cons (RelW.take h e'.1) (RelWs.takeI hs e'.2)
end
theorem KvOk.takeI {b : Nat} : ∀ {d : List (PyData × Wd)} {v : List (Key × V)}, KvOk K ι H d v → Wd.ltAll b (d.map (·.2)) = true → KvOk K (ι.take b) H d v
  | [], [], _, _ => True.intro
  | (_, w) :: r, (_, _) :: _, ⟨h1, h2, h3⟩, e => by
    have e' : (Wd.lt b w && Wd.ltAll b (r.map (·.2))) = true := e
    rw [Bool.and_eq_true] at e'
    exact ⟨h1, h2.take e'.1, KvOk.takeI h3 e'.2⟩
  | [], _ :: _, h, _ => h.elim
  | _ :: _, [], h, _ => h.elim
theorem FsOk.takeI {b : Nat} : ∀ {d : List (Str × Wd)} {v : List (Str × V)}, FsOk K ι H d v → Wd.ltAll b (d.map (·.2)) = true → FsOk K (ι.take b) H d v
  | [], [], _, _ => True.intro
  | (_, w) :: r, (_, _) :: _, ⟨h1, h2, h3⟩, e => by
    have e' : (Wd.lt b w && Wd.ltAll b (r.map (·.2))) = true := e
    rw [Bool.and_eq_true] at e'
    exact ⟨h1, h2.take e'.1, FsOk.takeI h3 e'.2⟩
  | [], _ :: _, h, _ => h.elim
  | _ :: _, [], h, _ => h.elim
theorem CellOk.takeI {a : Addr} {c : Cell} {b : Nat} (h : CellOk K ι H a c) (e : c.lt b = true) : CellOk K (ι.take b) H a c := by
  cases c with
  | lst xs => obtain ⟨vs, q, r⟩ := h; exact ⟨vs, q, r.takeI e⟩
  | dct xs => obtain ⟨vs, q, r⟩ := h; exact ⟨vs, q, r.takeI e⟩
  | ins c xs => obtain ⟨C, dx, vs, q0, q, r⟩ := h; exact ⟨C, dx, vs, q0, q, r.takeI e⟩
theorem MemOk.closeS {n0 : Nat} {held : Bool} (mo : MemOk K ι m H) : ∃ ι2, ι2 <+: ι ∧ MemOk K ι2 (m.closeS n0 held) H ∧ (ι2 = ι ∨ (held = true ∧ ι2 = ι.take n0)) := by
  unfold Mm.closeS
  cases hs : m.stk with
  | nil => exact ⟨ι, List.prefix_refl _, mo, .inl rfl⟩
  | cons p r =>
    obtain ⟨b, ds⟩ := p
    have mr : MemOk K ι ⟨m.cells, r⟩ H := ⟨mo.len, mo.nd, mo.cell, fun q hq => mo.top q (by rw [hs]; exact List.mem_cons_of_mem _ hq), by have := mo.ord; rw [hs] at this; exact (List.pairwise_cons.mp this).2, fun q hq => mo.clean q (by rw [hs]; exact List.mem_cons_of_mem _ hq)⟩
    simp only []
    by_cases hb : (decide (b = n0) && held && ds.all fun n => decide (n0 ≤ n) || (match m.cells[n]? with | some c => c.lt n0 | none => true)) = true
    · rw [if_pos hb]
      rw [Bool.and_eq_true, Bool.and_eq_true] at hb
      obtain ⟨⟨e1, e2⟩, e3⟩ := hb
      have e1 := of_decide_eq_true e1
      subst e1
      have hle : b ≤ m.cells.length := mo.top (b, ds) (by rw [hs]; exact List.mem_cons_self)
      refine ⟨ι.take b, List.take_prefix _ _, ⟨by simp [mo.len], mo.nd.sublist (List.take_sublist _ _), fun n a c h1 h2 => ?_, fun q hq => ?_, mr.ord, fun q hq n c hlt hd hc => ?_⟩, .inr ⟨e2, rfl⟩⟩
      · have h2' : (m.cells.take b)[n]? = some c := h2
        have hn : n < b := by
          have := get_of h2'
          rw [List.length_take] at this
          omega
        rw [List.getElem?_take, if_pos hn] at h1 h2'
        refine (mo.cell n a c h1 h2').takeI ?_
        by_cases hd : n ∈ ds
        · have := List.all_eq_true.mp e3 n hd
          rw [Bool.or_eq_true] at this
          rcases this with z | z
          · exact absurd (of_decide_eq_true z) (by omega)
          · rw [h2'] at z; exact z
        · exact mo.clean (b, ds) (by rw [hs]; exact List.mem_cons_self) n c hn hd h2'
      · have := mo.ord
        rw [hs] at this
        have hq1 : q.1 ≤ b := (List.pairwise_cons.mp this).1 q.1 (List.mem_map.mpr ⟨q, hq, rfl⟩)
        show q.1 ≤ (m.cells.take b).length
        rw [List.length_take]
        omega
      · have hc' : (m.cells.take b)[n]? = some c := hc
        have hn : n < b := by
          have := get_of hc'
          rw [List.length_take] at this
          omega
        rw [List.getElem?_take, if_pos hn] at hc'
        exact mr.clean q hq n c hlt hd hc'
    · rw [if_neg hb]
      exact ⟨ι, List.prefix_refl _, mr, .inl rfl⟩
end
end DL
set_option Elab.async false
set_option linter.all false
set_option maxRecDepth 100000
set_option maxHeartbeats 2000000
namespace DL
open PySem PySem.Spec PyProof.Rows L2

def Rs.of {α : Type} : Option (α × Mm) → Rs α
  | some (a, m) => .ok a m
  | none => .stuck
@[simp] theorem Rs.of_some {α : Type} (a : α) (m : Mm) : Rs.of (some (a, m)) = .ok a m := rfl
@[simp] theorem Rs.of_none {α : Type} : Rs.of (none : Option (α × Mm)) = .stuck := rfl
/-- a value alone -/
def pureO {α : Type} (m : Mm) : Option α → Option (α × Mm)
  | some a => some (a, m)
  | none => none
@[simp] theorem pureO_some {α : Type} (m : Mm) (a : α) : pureO m (some a) = some (a, m) := rfl
@[simp] theorem pureO_none {α : Type} (m : Mm) : pureO m (none : Option α) = none := rfl
abbrev LIM : Nat := 16777216
theorem LIM_eq : LIM = sizeLine := sizeLine_eq.symm

theorem PEimp {X : Cx} {e : Expr} {t t' : TE} (h : PE X e t) (i : ∀ σ H Q, t' σ H Q → t σ H Q) : PE X e t' := ⟨fun pins s σ H Q I hw => h.run pins s σ H Q I (i σ H Q hw)⟩
theorem PTimp {X : Cx} {e : Expr} {t t' : TT} (h : PT X e t) (i : ∀ σ H Q, t' σ H Q → t σ H Q) : PT X e t' := ⟨fun pins s σ H Q I hw => h.run pins s σ H Q I (i σ H Q hw)⟩
theorem PWimp {X : Cx} {e : Expr} {t t' : TT} (h : PW X e t) (i : ∀ σ H Q, t' σ H Q → t σ H Q) : PW X e t' := ⟨fun wh pins s σ H Q I hw => h.run wh pins s σ H Q I (i σ H Q hw)⟩
theorem PAimp {X : Cx} {e : List Expr} {t t' : TA} (h : PA X e t) (i : ∀ σ H Q, t' σ H Q → t σ H Q) : PA X e t' := ⟨fun ps pins s σ H Q I hw => h.run ps pins s σ H Q I (i σ H Q hw)⟩
theorem PSimp {X : Cx} {e : Stmt} {t t' : TS} (h : PS X e t) (i : ∀ D σ H, t' D σ H → t D σ H) : PS X e t' := ⟨fun pins s σ H Q I hw => h.run pins s σ H Q I (i Q σ H hw)⟩
theorem PSsimp {X : Cx} {e : List Stmt} {t t' : TS} (h : PSs X e t) (i : ∀ D σ H, t' D σ H → t D σ H) : PSs X e t' := ⟨fun pins s σ H Q I hw => h.run pins s σ H Q I (i Q σ H hw)⟩
theorem OpRimp {X : Cx} {f : Value → Value → Sem Value} {r r' : R2} (h : OpR X f r) (i : ∀ x y H Q, r' x y H Q → r x y H Q) : OpR X f r' := fun pins s σ H x y v u Q I a b q => h pins s σ H x y v u Q I a b (i _ _ _ _ q)
theorem CallRimp {X : Cx} {f : Value} {r r' : List V → Hp → VK → Prop} (h : CallR X f r) (i : ∀ x H Q, r' x H Q → r x H Q) : CallR X f r' := fun pins s σ H x v Q I a q => h pins s σ H x v Q I a (i _ _ _ q)
theorem IxRimp {X : Cx} {r r' : R2} (h : IxR X r) (i : ∀ x y H Q, r' x y H Q → r x y H Q) : IxR X r' := fun va sl pins s σ H x y v u Q I a b q => h va sl pins s σ H x y v u Q I a b (i _ _ _ _ q)

section
variable {X : Cx} {W : L2.WX}
/-! ### expressions: what they compute -/
def eC (w : Wd) : Em Wd := fun _ m => .ok w m
def eV (i : Nat) : Em Wd := fun env m => match env[i]? with
  | some (some w) => .ok w m
  | _ => .stuck
def aN : Em (List Wd) := fun _ m => .ok [] m
def aC (f : Em Wd) (g : Em (List Wd)) : Em (List Wd) := fun env m => (f env m).bind fun w m => (g env m).bind fun ws m => .ok (w :: ws) m
abbrev Op1 := Wd → Mm → Option (Wd × Mm)
abbrev Op2 := Wd → Wd → Mm → Option (Wd × Mm)
abbrev OpN := List Wd → Mm → Option (Wd × Mm)
def e1 (g : Op1) (f : Em Wd) : Em Wd := fun env m => (f env m).bind fun a m => Rs.of (g a m)
def e2 (g : Op2) (fa fb : Em Wd) : Em Wd := fun env m => (fa env m).bind fun a m => (fb env m).bind fun b m => Rs.of (g a b m)
def eN (g : OpN) (f : Em (List Wd)) : Em Wd := fun env m => (f env m).bind fun ws m => Rs.of (g ws m)
/-- a def called -/
abbrev Fn := List Wd → Mm → Rs Wd
def eCall (n : Nat) (F : Fn) (f : Em (List Wd)) : Em Wd := fun env m => (f env m).bind fun ws m => if ws.length = n then F ws m else .stuck
def tupO : OpN := fun ws m => if ws.length ≤ LIM then some (mkTup ws, m) else none
def lstO : OpN := fun ws m => if ws.length ≤ LIM then some (.ref m.cells.length, m.push (.lst ws)) else none
/-- tests -/
def asB : Wd → Option Bool
  | .d (.bool b) => some b
  | _ => none
def truO (w : Wd) (m : Mm) : Option Bool := match w with
  | .d .none => some false
  | .d (.bool b) => some b
  | .d (.int i) => some (i != 0)
  | .d (.str x) => if x.length ≤ LIM then some ((x.length : Int) != 0) else none
  | .d (.tuple xs) => some (!xs.isEmpty)
  | .tup xs => some (!xs.isEmpty)
  | .rol xs => some (!xs.isEmpty)
  | .ref n => match m.cells[n]? with
    | some (.lst xs) => some (!xs.isEmpty)
    | some (.dct kvs) => some (!kvs.isEmpty)
    | _ => none
  | _ => none
def b2 (g : Op2) (fa fb : Em Wd) : Em Bool := fun env m => (e2 g fa fb env m).bind fun w m => match asB w with
  | some b => .ok b m
  | none => .stuck
def bV (f : Em Wd) : Em Bool := fun env m => (f env m).bind fun w m => match truO w m with
  | some b => .ok b m
  | none => .stuck
def bAnd (f g : Em Bool) : Em Bool := fun env m => (f env m).bind fun b m => if b = true then g env m else .ok false m
def bOr (f g : Em Bool) : Em Bool := fun env m => (f env m).bind fun b m => if b = true then .ok true m else g env m
def bNot (f : Em Bool) : Em Bool := fun env m => (f env m).bind fun b m => .ok (!b) m
def eIf (c : Em Bool) (f g : Em Wd) : Em Wd := fun env m => (c env m).bind fun b m => if b = true then f env m else g env m
def eAnd (f g : Em Wd) : Em Wd := fun env m => (f env m).bind fun w m => match truO w m with
  | some b => if b = true then g env m else .ok w m
  | none => .stuck
def eOr (f g : Em Wd) : Em Wd := fun env m => (f env m).bind fun w m => match truO w m with
  | some b => if b = true then .ok w m else g env m
  | none => .stuck
def eNot (f : Em Wd) : Em Wd := fun env m => (f env m).bind fun w m => match truO w m with
  | some b => .ok (.d (.bool (!b))) m
  | none => .stuck
/-- a < b < c -/
def eCh (g g' : Op2) (fa fb fc : Em Wd) : Em Wd := fun env m => (fa env m).bind fun a m => (fb env m).bind fun b m => (Rs.of (g a b m)).bind fun z m => match asB z with
  | some k => if k = true then (fc env m).bind fun c m => Rs.of (g' b c m) else .ok (.d (.bool false)) m
  | none => .stuck

/-! ### by values -/
section
variable (K : PySem.W.Frag)
def rO1 (g : Op1) : V → Hp → VK → Prop := fun x H Q => ∃ ι m a, MemOk K ι m H ∧ RelW K ι H a x ∧ Post K W0 (RelW K) ι H [] Q (Rs.of (g a m))
def rO (g : Op2) : R2 := fun x y H Q => ∃ ι m a b, MemOk K ι m H ∧ RelW K ι H a x ∧ RelW K ι H b y ∧ Post K W0 (RelW K) ι H [] Q (Rs.of (g a b m))
def rON (g : OpN) : List V → Hp → VK → Prop := fun xs H Q => ∃ ι m ws, MemOk K ι m H ∧ RelWs K ι H ws xs ∧ Post K W0 (RelW K) ι H [] Q (Rs.of (g ws m))
/-- a def's promise -/
def spD (n : Nat) (F : Fn) : Sp := fun vs H Q E => ∃ ι m ws, vs.length = n ∧ MemOk K ι m H ∧ RelWs K ι H ws vs ∧ Post K (fun cls d _ H' => E cls d H') (RelW K) ι H [] Q (F ws m)
end
theorem Post.w0 {K : PySem.W.Frag} {α β : Type} {rel : List Addr → Hp → α → β → Prop} {ι : List Addr} {H : Hp} {σ σ' : L2.St} {Q : β → Hp → Prop} {r : Option (α × Mm)} (h : Post K W rel ι H σ Q (Rs.of r)) : Post K W0 rel ι H σ' Q (Rs.of r) := by
  cases r with
  | none => exact h
  | some p => exact h
theorem post_ok {K : PySem.W.Frag} {α β : Type} {rel : List Addr → Hp → α → β → Prop} {ι : List Addr} {H : Hp} {σ : L2.St} {Q : β → Hp → Prop} {a : α} {b : β} {m : Mm} (h : Post K W rel ι H σ Q (.ok a m)) (mo : MemOk K ι m H) (r : rel ι H a b) : Q b H := h ι H b .refl mo r
theorem RelW.d' {K : PySem.W.Frag} {ι : List Addr} {H : Hp} {x : PyData} {v : V} (h : RelW K ι H (.d x) v) : RelD K H x v := by cases h with | d h => exact h
theorem relW_bl {K : PySem.W.Frag} {ι : List Addr} {H : Hp} {b : Bool} {v : V} (h : RelW K ι H (.d (.bool b)) v) : v = .bl b := by cases h.d'; rfl
theorem relW_int {K : PySem.W.Frag} {ι : List Addr} {H : Hp} {b : Int} {v : V} (h : RelW K ι H (.d (.int b)) v) : v = .int b := by cases h.d'; rfl
theorem relW_str {K : PySem.W.Frag} {ι : List Addr} {H : Hp} {b : Str} {v : V} (h : RelW K ι H (.d (.str b)) v) : v = .str b := by cases h.d'; rfl
theorem relW_non {K : PySem.W.Frag} {ι : List Addr} {H : Hp} {v : V} (h : RelW K ι H (.d .none) v) : v = .non := by cases h.d'; rfl
theorem relW_ref {K : PySem.W.Frag} {ι : List Addr} {H : Hp} {n : Nat} {v : V} (h : RelW K ι H (.ref n) v) : ∃ a, v = .ref a ∧ ι[n]? = some a := by cases h with | ref h => exact ⟨_, rfl, h⟩
theorem asB_ok {w : Wd} {b : Bool} (h : asB w = some b) : w = .d (.bool b) := by
  unfold asB at h
  split at h
  · cases h; rfl
  · cases h
theorem truO_ok {K : PySem.W.Frag} {ι : List Addr} {H : Hp} {m : Mm} {w : Wd} {v : V} {b : Bool} (mo : MemOk K ι m H) (r : RelW K ι H w v) (h : truO w m = some b) : TruV K v H b := by
  cases r with
  | d r =>
    cases r with
    | non => cases h; rfl
    | bl _ => cases h; rfl
    | int _ => cases h; rfl
    | str x =>
      simp only [truO] at h
      split at h
      · cases h; exact ⟨by rw [← LIM_eq]; assumption, rfl⟩
      · cases h
    | tup q qs =>
      cases h
      refine .inr (.inl ⟨_, q, ?_⟩)
      cases qs <;> rfl
  | tup q qs =>
    cases h
    refine .inr (.inl ⟨_, q, ?_⟩)
    cases qs <;> rfl
  | rol q qs =>
    cases h
    refine .inl ⟨_, q.sqL, ?_⟩
    cases qs <;> rfl
  | ref e =>
    simp only [truO] at h
    split at h
    · rename_i xs hc
      cases h
      obtain ⟨vs, e1, rs⟩ := mo.cell _ _ _ e hc
      refine .inl ⟨vs, SqL.of e1, ?_⟩
      cases rs <;> rfl
    · rename_i kvs hc
      cases h
      obtain ⟨vs, e1, rs⟩ := mo.cell _ _ _ e hc
      refine .inr (.inr ⟨vs, e1, ?_⟩)
      cases kvs <;> cases vs <;> first | rfl | exact rs.elim
    · cases h
  | v x => cases h

/-! ### the rules -/
theorem de_C {e : Expr} {v : V} {w : Wd} (h : PE X e (tC v)) (r : ∀ ι H, RelW X.K ι H w v) : PE X e (tE X.K W (eC w)) :=
  PEimp h fun σ H Q ⟨ι, env, m, eo, mo, p⟩ => post_ok p mo (r _ _)
theorem de_int {i : Int} {j pos} : PE X (.Constant (.int i) j pos) (tE X.K W (eC (.d (.int i)))) := de_C pe_int fun _ _ => .d (.int i)
theorem de_bool {i : Bool} {j pos} : PE X (.Constant (.bool i) j pos) (tE X.K W (eC (.d (.bool i)))) := de_C pe_bl fun _ _ => .d (.bl i)
theorem de_str {i : Str} {j pos} : PE X (.Constant (.str i) j pos) (tE X.K W (eC (.d (.str i)))) := de_C pe_str fun _ _ => .d (.str i)
theorem de_none {j pos} : PE X (.Constant .none j pos) (tE X.K W (eC (.d .none))) := de_C pe_non fun _ _ => .d .non
theorem de_V {e : Expr} {i : Nat} (h : PE X e (tVar i)) : PE X e (tE X.K W (eV i)) :=
  PEimp h fun σ H Q ⟨ι, env, m, eo, mo, p⟩ => by
    unfold eV at p
    cases q : env[i]? with
    | none => rw [q] at p; exact p.elim
    | some o =>
      cases o with
      | none => rw [q] at p; exact p.elim
      | some w =>
        rw [q] at p
        obtain ⟨v, e1, r⟩ := eo.2 i w q
        exact ⟨v, e1, post_ok p mo r⟩
/-- a module's constant -/
theorem de_G {x : Str} {u : Value} {v : V} {w : Wd} {pos : Pos} (hg : Gl X x) (hm : X.mg x = some u) (rv : RelV v u) (r : ∀ ι H, RelW X.K ι H w v) (hd : (x == ("__debug__" : Str)) = false := by decide) : PE X (.Name x pos) (tE X.K W (eC w)) :=
  de_C (pe_glob hg hm rv hd) r
theorem da_nil : PA X [] (tA X.K W aN) := PAimp pa_nil fun σ H Q ⟨ι, env, m, eo, mo, p⟩ => post_ok p mo .nil
theorem da_cons {e : Expr} {es : List Expr} {f : Em Wd} {g : Em (List Wd)} (ha : PE X e (tE X.K W f)) (hb : PA X es (tA X.K W g)) (hs : starEach (e :: es) X.env = (false, eval e X.env) :: starEach es X.env := by rfl) : PA X (e :: es) (tA X.K W (aC f g)) :=
  PAimp (pa_cons ha hb hs) fun σ H Q ⟨ι, env, m, eo, mo, p⟩ => Post.bind eo mo p fun ι1 H1 a x m1 st1 mo1 eo1 ra p1 => Post.bind eo1 mo1 p1 fun ι2 H2 b y m2 st2 mo2 eo2 rb p2 => post_ok p2 mo2 (.cons (ra.step mo1.apart st2) rb)
theorem post_e2 {K : PySem.W.Frag} {g : Op2} {fa fb : Em Wd} {ι : List Addr} {env : Env} {m : Mm} {H : Hp} {σ : L2.St} {Q : VK} (eo : EnvOk K ι H env σ) (mo : MemOk K ι m H) (p : Post K W (RelW K) ι H σ Q (e2 g fa fb env m)) : tE K W fa σ H fun x H1 => tE K W fb σ H1 fun y H2 => rO K g x y H2 Q :=
  Post.bind eo mo p fun ι1 H1 a x m1 st1 mo1 eo1 ra p1 => Post.bind eo1 mo1 p1 fun ι2 H2 b y m2 st2 mo2 eo2 rb p2 => ⟨ι2, m2, a, b, mo2, ra.step mo1.apart st2, rb, p2.w0⟩
theorem de_bin {a b : Expr} {op : Operator} {g : Op2} {fa fb : Em Wd} {pos : Pos} (ho : OpR X (binaryOp op) (rO X.K g)) (ha : PE X a (tE X.K W fa)) (hb : PE X b (tE X.K W fb)) : PE X (.BinOp a op b pos) (tE X.K W (e2 g fa fb)) :=
  PEimp (pe_op ho ha hb) fun σ H Q ⟨ι, env, m, eo, mo, p⟩ => post_e2 eo mo p
theorem de_cmp {a b : Expr} {op : CmpOp} {g : Op2} {fa fb : Em Wd} {pos : Pos} (ho : OpR X (compareOp op) (rO X.K g)) (ha : PE X a (tE X.K W fa)) (hb : PE X b (tE X.K W fb)) (hm : behindInMarks op b = false) : PE X (.Compare a [op] [b] pos) (tE X.K W (e2 g fa fb)) :=
  PEimp (pe_cmpR ho ha hb hm) fun σ H Q ⟨ι, env, m, eo, mo, p⟩ => post_e2 eo mo p
theorem dt_cmp {a b : Expr} {op : CmpOp} {g : Op2} {fa fb : Em Wd} {pos : Pos} (ho : OpR X (compareOp op) (rO X.K g)) (ha : PE X a (tE X.K W fa)) (hb : PE X b (tE X.K W fb)) (hm : behindInMarks op b = false) : PT X (.Compare a [op] [b] pos) (tT X.K W (b2 g fa fb)) := by
  refine PTimp (pt_cmpR ho ha hb hm) fun σ H Q ⟨ι, env, m, eo, mo, p⟩ => ?_
  refine post_e2 (Q := fun x H' => ∃ k, x = .bl k ∧ Q k H') eo mo ?_
  unfold b2 at p
  cases q : e2 g fa fb env m with
  | stuck => rw [q] at p; exact p
  | exc x m1 => rw [q] at p; exact p
  | ok w m1 =>
    rw [q] at p
    simp only [Rs.bind_ok] at p
    cases q2 : asB w with
    | none => rw [q2] at p; exact p.elim
    | some b =>
      rw [q2] at p
      have := asB_ok q2
      subst this
      exact fun ι' H' v st mo' r => ⟨b, relW_bl r, p ι' H' b st mo' rfl⟩
theorem post_eCh {K : PySem.W.Frag} {g g' : Op2} {fa fb fc : Em Wd} {ι : List Addr} {env : Env} {m : Mm} {H : Hp} {σ : L2.St} {Q : VK} (eo : EnvOk K ι H env σ) (mo : MemOk K ι m H) (p : Post K W (RelW K) ι H σ Q (eCh g g' fa fb fc env m)) :
    tChain (rO K g) (rO K g') (tE K W fa) (tE K W fb) (tE K W fc) σ H Q :=
  Post.bind eo mo p fun ι1 H1 a x m1 st1 mo1 eo1 ra p1 => Post.bind eo1 mo1 p1 fun ι2 H2 b y m2 st2 mo2 eo2 rb p2 => ⟨ι2, m2, a, b, mo2, ra.step mo1.apart st2, rb, by
    cases q : g a b m2 with
    | none => rw [q] at p2; exact p2
    | some z =>
      obtain ⟨z, m3⟩ := z
      rw [q] at p2
      simp only [Rs.of_some, Rs.bind_ok] at p2
      intro ι3 H3 v st3 mo3 rz
      cases q2 : asB z with
      | none => rw [q2] at p2; exact p2.elim
      | some k =>
        rw [q2] at p2
        have e := asB_ok q2
        subst e
        refine ⟨k, relW_bl rz, ?_⟩
        cases k with
        | false => exact p2 ι3 H3 _ st3 mo3 (.d (.bl false))
        | true =>
          simp only [if_true] at p2 ⊢
          exact Post.bind (eo2.step mo2.apart st3) mo3 (p2.step st3) fun ι4 H4 c zz m4 st4 mo4 eo4 rc p4 => ⟨ι4, m4, b, c, mo4, (rb.step mo2.apart st3).step mo3.apart st4, rc, p4.w0⟩⟩
theorem de_chain {a b c : Expr} {op op' : CmpOp} {g g' : Op2} {fa fb fc : Em Wd} {pos : Pos} (ho : OpR X (compareOp op) (rO X.K g)) (ho' : OpR X (compareOp op') (rO X.K g')) (ha : PE X a (tE X.K W fa)) (hb : PE X b (tE X.K W fb)) (hc : PE X c (tE X.K W fc))
    (hm : lastMarks [op, op'] [b, c] = false := by with_unfolding_all rfl) : PE X (.Compare a [op, op'] [b, c] pos) (tE X.K W (eCh g g' fa fb fc)) :=
  PEimp (pe_chain ho ho' ha hb hc hm) fun σ H Q ⟨ι, env, m, eo, mo, p⟩ => post_eCh eo mo p
def bCh (g g' : Op2) (fa fb fc : Em Wd) : Em Bool := fun env m => (eCh g g' fa fb fc env m).bind fun w m => match asB w with
  | some b => .ok b m
  | none => .stuck
theorem dt_chain {a b c : Expr} {op op' : CmpOp} {g g' : Op2} {fa fb fc : Em Wd} {pos : Pos} (ho : OpR X (compareOp op) (rO X.K g)) (ho' : OpR X (compareOp op') (rO X.K g')) (ha : PE X a (tE X.K W fa)) (hb : PE X b (tE X.K W fb)) (hc : PE X c (tE X.K W fc))
    (hm : lastMarks [op, op'] [b, c] = false := by with_unfolding_all rfl) : PT X (.Compare a [op, op'] [b, c] pos) (tT X.K W (bCh g g' fa fb fc)) := by
  refine PTimp (pt_chain ho ho' ha hb hc hm) fun σ H Q ⟨ι, env, m, eo, mo, p⟩ => ?_
  refine post_eCh (Q := fun x H' => ∃ k, x = .bl k ∧ Q k H') eo mo ?_
  unfold bCh at p
  cases q : eCh g g' fa fb fc env m with
  | stuck => rw [q] at p; exact p
  | exc x m1 => rw [q] at p; exact p
  | ok w m1 =>
    rw [q] at p
    simp only [Rs.bind_ok] at p
    cases q2 : asB w with
    | none => rw [q2] at p; exact p.elim
    | some b =>
      rw [q2] at p
      have := asB_ok q2
      subst this
      exact fun ι' H' v st mo' r => ⟨b, relW_bl r, p ι' H' b st mo' rfl⟩
/-- a unary operator -/
theorem de_un {a : Expr} {op : UnaryOp} {g : Op1} {fa : Em Wd} {pos : Pos} (ho : UnR X (unaryOp op) (rO1 X.K g)) (ha : PE X a (tE X.K W fa)) : PE X (.UnaryOp op a pos) (tE X.K W (e1 g fa)) :=
  PEimp (pe_un ho ha) fun σ H Q ⟨ι, env, m, eo, mo, p⟩ => Post.bind eo mo p fun ι1 H1 a x m1 st1 mo1 eo1 ra p1 => ⟨ι1, m1, a, mo1, ra, p1.w0⟩
/-- tests -/
theorem dt_val {e : Expr} {f : Em Wd} (h : PE X e (tE X.K W f)) (he : ∀ whole, isTrue e X.env whole = (do let v ← whole; standAt e.pos; holding [v] (truthy v)) := by intro _; rfl) : PT X e (tT X.K W (bV f)) :=
  PTimp (pt_truth h he) fun σ H Q ⟨ι, env, m, eo, mo, p⟩ => Post.bind eo mo p fun ι1 H1 a x m1 st1 mo1 eo1 ra p1 => by
    cases q : truO a m1 with
    | none => simp only [q] at p1; exact p1.elim
    | some b => simp only [q] at p1; exact ⟨b, truO_ok mo1 ra q, post_ok p1 mo1 rfl⟩
theorem tB_and {K : PySem.W.Frag} {f g : Em Bool} {σ : L2.St} {H : Hp} {Q : Bool → Hp → Prop} (h : tT K W (bAnd f g) σ H Q) : tAnd (tT K W f) (tT K W g) σ H Q := by
  obtain ⟨ι, env, m, eo, mo, p⟩ := h
  refine Post.bind eo mo p fun ι1 H1 a x m1 st1 mo1 eo1 ra p1 => ?_
  subst ra
  cases a with
  | true => exact ⟨ι1, env, m1, eo1, mo1, p1⟩
  | false => exact post_ok p1 mo1 rfl
theorem tB_or {K : PySem.W.Frag} {f g : Em Bool} {σ : L2.St} {H : Hp} {Q : Bool → Hp → Prop} (h : tT K W (bOr f g) σ H Q) : tOr (tT K W f) (tT K W g) σ H Q := by
  obtain ⟨ι, env, m, eo, mo, p⟩ := h
  refine Post.bind eo mo p fun ι1 H1 a x m1 st1 mo1 eo1 ra p1 => ?_
  subst ra
  cases a with
  | true => exact post_ok p1 mo1 rfl
  | false => exact ⟨ι1, env, m1, eo1, mo1, p1⟩
theorem dw_and1 {a : Expr} {pos : Pos} {f : Em Bool} (h : PT X a (tT X.K W f)) : PW X (.BoolOp .And [a] pos) (tT X.K W f) := pw_and1 h
theorem dw_or1 {a : Expr} {pos : Pos} {f : Em Bool} (h : PT X a (tT X.K W f)) : PW X (.BoolOp .Or [a] pos) (tT X.K W f) := pw_or1 h
theorem dw_and {a b : Expr} {rest : List Expr} {pos : Pos} {f g : Em Bool} (h : PT X a (tT X.K W f)) (h2 : PW X (.BoolOp .And (b :: rest) pos) (tT X.K W g)) : PW X (.BoolOp .And (a :: b :: rest) pos) (tT X.K W (bAnd f g)) := PWimp (pw_and h h2) fun _ _ _ => tB_and
theorem dw_or {a b : Expr} {rest : List Expr} {pos : Pos} {f g : Em Bool} (h : PT X a (tT X.K W f)) (h2 : PW X (.BoolOp .Or (b :: rest) pos) (tT X.K W g)) : PW X (.BoolOp .Or (a :: b :: rest) pos) (tT X.K W (bOr f g)) := PWimp (pw_or h h2) fun _ _ _ => tB_or
theorem dt_not {a : Expr} {pos : Pos} {f : Em Bool} (h : PT X a (tT X.K W f)) : PT X (.UnaryOp .Not a pos) (tT X.K W (bNot f)) :=
  PTimp (pt_not h) fun σ H Q ⟨ι, env, m, eo, mo, p⟩ => Post.bind eo mo p fun ι1 H1 a x m1 st1 mo1 eo1 ra p1 => post_ok p1 mo1 (by rw [ra])
theorem de_if {a b c : Expr} {pos : Pos} {ft : Em Bool} {fa fb : Em Wd} (hc : PT X c (tT X.K W ft)) (ha : PE X a (tE X.K W fa)) (hb : PE X b (tE X.K W fb)) : PE X (.IfExp c a b pos) (tE X.K W (eIf ft fa fb)) :=
  PEimp (pe_ifExp hc ha hb) fun σ H Q ⟨ι, env, m, eo, mo, p⟩ => Post.bind eo mo p fun ι1 H1 a x m1 st1 mo1 eo1 ra p1 => by
    subst ra
    cases a with
    | true => exact ⟨ι1, env, m1, eo1, mo1, p1⟩
    | false => exact ⟨ι1, env, m1, eo1, mo1, p1⟩
theorem de_one {a : Expr} {op : BoolOp} {pos : Pos} {f : Em Wd} (h : PE X a (tE X.K W f)) : PE X (.BoolOp op [a] pos) (tE X.K W f) := pe_one h
theorem de_and {a b : Expr} {rest : List Expr} {pos : Pos} {f g : Em Wd} (h : PE X a (tE X.K W f)) (h2 : PE X (.BoolOp .And (b :: rest) pos) (tE X.K W g)) : PE X (.BoolOp .And (a :: b :: rest) pos) (tE X.K W (eAnd f g)) :=
  PEimp (pe_andT h h2) fun σ H Q ⟨ι, env, m, eo, mo, p⟩ => Post.bind eo mo p fun ι1 H1 a x m1 st1 mo1 eo1 ra p1 => by
    cases q : truO a m1 with
    | none => simp only [q] at p1; exact p1.elim
    | some b =>
      simp only [q] at p1
      refine ⟨b, truO_ok mo1 ra q, ?_⟩
      cases b with
      | true => exact ⟨ι1, env, m1, eo1, mo1, p1⟩
      | false => exact post_ok p1 mo1 ra
theorem de_or {a b : Expr} {rest : List Expr} {pos : Pos} {f g : Em Wd} (h : PE X a (tE X.K W f)) (h2 : PE X (.BoolOp .Or (b :: rest) pos) (tE X.K W g)) : PE X (.BoolOp .Or (a :: b :: rest) pos) (tE X.K W (eOr f g)) :=
  PEimp (pe_orT h h2) fun σ H Q ⟨ι, env, m, eo, mo, p⟩ => Post.bind eo mo p fun ι1 H1 a x m1 st1 mo1 eo1 ra p1 => by
    cases q : truO a m1 with
    | none => simp only [q] at p1; exact p1.elim
    | some b =>
      simp only [q] at p1
      refine ⟨b, truO_ok mo1 ra q, ?_⟩
      cases b with
      | false => exact ⟨ι1, env, m1, eo1, mo1, p1⟩
      | true => exact post_ok p1 mo1 ra
theorem de_not {a : Expr} {pos : Pos} {f : Em Wd} (h : PE X a (tE X.K W f)) : PE X (.UnaryOp .Not a pos) (tE X.K W (eNot f)) :=
  PEimp (pe_notT h) fun σ H Q ⟨ι, env, m, eo, mo, p⟩ => Post.bind eo mo p fun ι1 H1 a x m1 st1 mo1 eo1 ra p1 => by
    cases q : truO a m1 with
    | none => simp only [q] at p1; exact p1.elim
    | some b => simp only [q] at p1; exact ⟨b, truO_ok mo1 ra q, post_ok p1 mo1 (.d (.bl _))⟩
/-- displays -/
theorem de_tup {es : List Expr} {x1 pos} {f : Em (List Wd)} (h : PA X es (tA X.K W f)) : PE X (.Tuple es x1 pos) (tE X.K W (eN tupO f)) :=
  PEimp (pe_tup h) fun σ H Q ⟨ι, env, m, eo, mo, p⟩ => Post.bind eo mo p fun ι1 H1 ws xs m1 st1 mo1 eo1 ra p1 => by
    unfold tupO at p1
    by_cases hl : ws.length ≤ LIM
    · rw [if_pos hl] at p1
      have hl' : xs.length ≤ sizeLine := by rw [← ra.length, ← LIM_eq]; exact hl
      exact ⟨hl', fun q hq => p1 ι1 _ _ (stp_tup hq) (mo1.tup hq) (mkTup_ok (SqT.of upd_same) (ra.step mo1.apart (stp_tup hq)))⟩
    · rw [if_neg hl] at p1; exact p1.elim
theorem cell_new {K : PySem.W.Frag} {ι : List Addr} {H : Hp} {m : Mm} {q : Addr} {ws : List Wd} {xs : List V} (mo : MemOk K ι m H) (hq : H q = none) (ra : RelWs K ι H ws xs) : MemOk K (ι ++ [q]) (m.push (.lst ws)) (upd H q (.lst xs)) ∧ RelW K (ι ++ [q]) (upd H q (.lst xs)) (.ref m.cells.length) (.ref q) :=
  ⟨mo.push hq ⟨xs, upd_same, ra.step mo.apart (stp_new hq)⟩, .ref (by rw [← mo.len]; simp)⟩
theorem de_lst {es : List Expr} {pos} {f : Em (List Wd)} (h : PA X es (tA X.K W f)) : PE X (.List es pos) (tE X.K W (eN lstO f)) :=
  PEimp (pe_lst h) fun σ H Q ⟨ι, env, m, eo, mo, p⟩ => Post.bind eo mo p fun ι1 H1 ws xs m1 st1 mo1 eo1 ra p1 => by
    unfold lstO at p1
    by_cases hl : ws.length ≤ LIM
    · rw [if_pos hl] at p1
      have hl' : xs.length ≤ sizeLine := by rw [← ra.length, ← LIM_eq]; exact hl
      exact ⟨hl', fun q hq => let ⟨a, b⟩ := cell_new mo1 hq ra; p1 _ _ _ (stp_new hq) a b⟩
    · rw [if_neg hl] at p1; exact p1.elim
/-- calls -/
theorem de_call {k n : Nat} {f : Addr} {fd : FuncData} {ps : List Str} {F : Fn} {x : Str} {p pos : Pos} {e : Expr} {es : List Expr} {fa : Em (List Wd)} (tk : Takes X W) (G : FnOk X.prog X.w X.K X.mg X.base (L2.CX X.prog X.w) k f fd ps (spD X.K n F)) (hr : Room k X.A) (hg : Gl X x) (hm : X.mg x = some (.ref f)) (hk : PySem.W.keepIn X.K (.ref f) = true) (hb : Binds X.K fd ps [])
    (ha : PA X (e :: es) (tA X.K W fa)) (hdb : (x == ("__debug__" : Str)) = false := by decide) (he : starEach (e :: es) X.env = (false, eval e X.env) :: starEach es X.env := by rfl) (hpl : (backTo pos (starEach es X.env)).any (·.1) = false := by rfl) :
    PE X (.Call (.Name x p) (e :: es) [] pos) (tE X.K W (eCall n F fa)) :=
  PEimp (pe_callS (E := WE W) G hr hg hm hk hb (fun σ => passAt tk σ) ha hdb he hpl) fun σ H Q ⟨ι, env, m, eo, mo, p⟩ => Post.bind eo mo p fun ι1 H1 ws xs m1 st1 mo1 eo1 ra p1 => by
    by_cases hl : ws.length = n
    · rw [if_pos hl] at p1
      refine ⟨ι1, m1, ws, by rw [← ra.length]; exact hl, mo1, ra, ?_⟩
      cases q : F ws m1 with
      | ok a m2 => rw [q] at p1; exact p1
      | exc x m2 => rw [q] at p1; exact p1
      | stuck => rw [q] at p1; exact p1
    · rw [if_neg hl] at p1; exact p1.elim
theorem de_callB {id : String} {g : OpN} {x : Str} {p pos : Pos} {e : Expr} {es : List Expr} {fa : Em (List Wd)} (hc : CallR X (.builtin id) (rON X.K g)) (hg : Gl X x) (hm : X.mg x = none) (hv : bootBuiltins x = some (.builtin id)) (ha : PA X (e :: es) (tA X.K W fa)) (hn : x ≠ "__name__" := by decide) (hdb : (x == ("__debug__" : Str)) = false := by decide)
    (he : starEach (e :: es) X.env = (false, eval e X.env) :: starEach es X.env := by rfl) (hpl : (backTo pos (starEach es X.env)).any (·.1) = false := by rfl) : PE X (.Call (.Name x p) (e :: es) [] pos) (tE X.K W (eN g fa)) :=
  PEimp (pe_callB hc hg hm hv ha hn hdb he hpl) fun σ H Q ⟨ι, env, m, eo, mo, p⟩ => Post.bind eo mo p fun ι1 H1 ws xs m1 st1 mo1 eo1 ra p1 => ⟨ι1, m1, ws, mo1, ra, p1.w0⟩
theorem de_callT {T : String} {g : OpN} {x : Str} {p pos : Pos} {e : Expr} {es : List Expr} {fa : Em (List Wd)} (hc : CallR X (.type T) (rON X.K g)) (hg : Gl X x) (hm : X.mg x = none) (hv : bootBuiltins x = some (.type T)) (ha : PA X (e :: es) (tA X.K W fa)) (hn : x ≠ "__name__" := by decide) (hdb : (x == ("__debug__" : Str)) = false := by decide)
    (he : starEach (e :: es) X.env = (false, eval e X.env) :: starEach es X.env := by rfl) (hpl : (backTo pos (starEach es X.env)).any (·.1) = false := by rfl) : PE X (.Call (.Name x p) (e :: es) [] pos) (tE X.K W (eN g fa)) :=
  PEimp (pe_callTy hc hg hm hv ha hn hdb he hpl) fun σ H Q ⟨ι, env, m, eo, mo, p⟩ => Post.bind eo mo p fun ι1 H1 ws xs m1 st1 mo1 eo1 ra p1 => ⟨ι1, m1, ws, mo1, ra, p1.w0⟩
/-- an item -/
theorem de_ix {a b : Expr} {g : Op2} {fa fb : Em Wd} {pos : Pos} (hr : IxR X (rO X.K g)) (ha : PE X a (tE X.K W fa)) (hb : PE X b (tE X.K W fb)) (hs : PlainIx b) : PE X (.Subscript a b pos) (tE X.K W (e2 g fa fb)) :=
  PEimp (pe_ix hr ha hb hs) fun σ H Q ⟨ι, env, m, eo, mo, p⟩ => post_e2 eo mo p
end
end DL
set_option Elab.async false
set_option linter.all false
set_option maxRecDepth 100000
set_option maxHeartbeats 2000000
namespace DL
open PySem PySem.Spec PyProof.Rows L2

/-! ### statements: what they do -/
def rs {α : Type} (r : Rs α) (env : Env) (k : α → Mm → Sr) : Sr := match r with
  | .ok a m => k a m
  | .exc x m => .exc x env m
  | .stuck => .stuck
@[simp] theorem rs_ok {α : Type} (a : α) (m : Mm) (env : Env) (k : α → Mm → Sr) : rs (.ok a m) env k = k a m := rfl
@[simp] theorem rs_exc {α : Type} (x : Ex) (m : Mm) (env : Env) (k : α → Mm → Sr) : rs (.exc x m) env k = .exc x env m := rfl
@[simp] theorem rs_stuck {α : Type} (env : Env) (k : α → Mm → Sr) : rs (.stuck : Rs α) env k = .stuck := rfl
def Sr.seq (r : Sr) (g : Sm) : Sr := match r with
  | .go .nx e m => g e m
  | r => r
@[simp] theorem seq_nx (e : Env) (m : Mm) (g : Sm) : (Sr.go .nx e m).seq g = g e m := rfl
@[simp] theorem seq_rt (w : Wd) (e : Env) (m : Mm) (g : Sm) : (Sr.go (.rt w) e m).seq g = .go (.rt w) e m := rfl
@[simp] theorem seq_bk (e : Env) (m : Mm) (g : Sm) : (Sr.go .bk e m).seq g = .go .bk e m := rfl
@[simp] theorem seq_ct (e : Env) (m : Mm) (g : Sm) : (Sr.go .ct e m).seq g = .go .ct e m := rfl
@[simp] theorem seq_exc (x : Ex) (e : Env) (m : Mm) (g : Sm) : (Sr.exc x e m).seq g = .exc x e m := rfl
@[simp] theorem seq_stuck (g : Sm) : Sr.stuck.seq g = .stuck := rfl
def sSeq (f g : Sm) : Sm := fun env m => (f env m).seq g
def sNop : Sm := fun env m => .go .nx env m
def sDrop (f : Em Wd) : Sm := fun env m => rs (f env m) env fun _ m => .go .nx env m
def sRet (f : Em Wd) : Sm := fun env m => rs (f env m) env fun w m => .go (.rt w) env m
def sRetN : Sm := fun env m => .go (.rt (.d .none)) env m
def sBk : Sm := fun env m => .go .bk env m
def sCt : Sm := fun env m => .go .ct env m
def sIf (c : Em Bool) (f g : Sm) : Sm := fun env m => rs (c env m) env fun b m => if b = true then f env m else g env m
def sSet (i : Nat) (f : Em Wd) : Sm := fun env m => rs (f env m) env fun w m => .go .nx (env.set i (some w)) m
/-- targets: names, tuples of targets -/
inductive Tg where
  | name (i : Nat) | tup (ts : List Tg)
mutual
def Tg.put : Tg → Wd → Env → Option Env
  | .name i, w, env => some (env.set i (some w))
  | .tup ts, w, env => (tupOf w).bind fun ws => Tg.putAll ts ws env
def Tg.putAll : List Tg → List Wd → Env → Option Env
  | [], [], env => some env
  | t :: ts, w :: ws, env => (Tg.put t w env).bind fun env => Tg.putAll ts ws env
  | _, _, _ => none
end
mutual
def Tg.slots : Tg → List Nat
  | .name i => [i]
  | .tup ts => Tg.slotsAll ts
def Tg.slotsAll : List Tg → List Nat
  | [] => []
  | t :: ts => Tg.slots t ++ Tg.slotsAll ts
end
def sAsg (t : Tg) (f : Em Wd) : Sm := fun env m => rs (f env m) env fun w m => match t.put w env with
  | some env => .go .nx env m
  | none => .stuck
/-- slots that are not looked at any more -/
def forget : List Nat → Env → Env
  | [], env => env
  | i :: r, env => (forget r env).set i none
def sForget (is : List Nat) (f : Sm) : Sm := fun env m => (f env m).seq fun env m => .go .nx (forget is env) m
def envLt (k : Nat) : Env → Bool
  | [] => true
  | none :: r => envLt k r
  | some w :: r => w.lt k && envLt k r
/-- a scope of its own -/
def Sr.close (n0 : Nat) : Sr → Sr
  | .go .nx e m => .go .nx e (m.closeS n0 (envLt n0 e))
  | .go .bk e m => .go .bk e (m.closeS n0 (envLt n0 e))
  | .go .ct e m => .go .ct e (m.closeS n0 (envLt n0 e))
  | .go (.rt w) e m => .go (.rt w) e (m.closeS n0 (w.lt n0))
  | .exc x e m => .exc x e (m.closeS n0 false)
  | .stuck => .stuck
def sScope (f : Sm) : Sm := fun env m => (f env m.openS).close m.cells.length
/-- a body, entered -/
def startE (n : Nat) (ws : List Wd) : Env := ws.map some ++ List.replicate (n - ws.length) none
def runF (n : Nat) (b : Sm) : Fn := fun ws m => match b (startE n ws) m.openS with
  | .go .nx _ m' => .ok (.d .none) (m'.closeS m.cells.length true)
  | .go (.rt w) _ m' => .ok w (m'.closeS m.cells.length (w.lt m.cells.length))
  | .exc x _ m' => .exc x (m'.closeS m.cells.length (Wd.ltAll m.cells.length (x.fs.map (·.2))))
  | _ => .stuck

section
variable {K : PySem.W.Frag} {W : L2.WX} {ι ι' : List Addr} {H H' : Hp} {env : Env} {σ : L2.St} {m : Mm}
theorem EnvOk.set {i : Nat} {w : Wd} {v : V} (h : EnvOk K ι H env σ) (r : RelW K ι H w v) : EnvOk K ι H (env.set i (some w)) (σ.set i (some v)) := by
  refine ⟨by simp [h.1], fun j u e => ?_⟩
  by_cases hj : j = i
  · subst hj
    have hl : j < env.length := by have := get_of e; rwa [List.length_set] at this
    rw [List.getElem?_set_self hl] at e
    cases e
    exact ⟨v, by rw [List.getElem?_set_self (by rw [← h.1]; exact hl)], r⟩
  · rw [List.getElem?_set_ne (Ne.symm hj)] at e
    obtain ⟨x, e1, r1⟩ := h.2 j u e
    exact ⟨x, by rw [List.getElem?_set_ne (Ne.symm hj)]; exact e1, r1⟩
theorem EnvOk.unset {i : Nat} (h : EnvOk K ι H env σ) : EnvOk K ι H (env.set i none) σ := by
  refine ⟨by simp [h.1], fun j u e => ?_⟩
  by_cases hj : j = i
  · subst hj
    have hl : j < env.length := by have := get_of e; rwa [List.length_set] at this
    rw [List.getElem?_set_self hl] at e
    cases e
  · rw [List.getElem?_set_ne (Ne.symm hj)] at e
    exact h.2 j u e
theorem EnvOk.forget (h : EnvOk K ι H env σ) : ∀ is : List Nat, EnvOk K ι H (forget is env) σ
  | [] => h
  | i :: r => (EnvOk.forget h r).unset
theorem EnvOk.take {b : Nat} : ∀ {env : Env} {σ : L2.St}, EnvOk K ι H env σ → envLt b env = true → EnvOk K (ι.take b) H env σ := by
  intro env σ h e
  refine ⟨h.1, fun i w q => ?_⟩
  obtain ⟨v, e1, r⟩ := h.2 i w q
  refine ⟨v, e1, r.take ?_⟩
  clear h e1 r
  induction env generalizing i with
  | nil => simp at q
  | cons o t ih =>
    cases i with
    | zero =>
      simp at q; subst q
      have e' : (w.lt b && envLt b t) = true := e
      exact (Bool.and_eq_true_iff.mp e').1
    | succ i =>
      refine ih ?_ i (by simpa using q)
      cases o with
      | none => exact e
      | some w' =>
        have e' : (w'.lt b && envLt b t) = true := e
        exact (Bool.and_eq_true_iff.mp e').2
/-- where less is known of the cells -/
theorem Stp.take {ι0 : List Addr} {H0 : Hp} {b : Nat} (st : Stp ι0 H0 ι H) (hb : ι0.length ≤ b) : Stp ι0 H0 (ι.take b) H where
  pre := by
    obtain ⟨t, e⟩ := st.pre
    refine ⟨t.take (b - ι0.length), ?_⟩
    rw [← e, List.take_append, List.take_of_length_le hb]
  new := fun a ha n => st.new a (List.mem_of_mem_take ha) n
  fix := st.fix
theorem pre_stp {ι0 ι2 : List Addr} {H0 : Hp} {b : Nat} (st : Stp ι0 H0 ι H) (hb : ι0.length ≤ b) (h : ι2 = ι ∨ (True ∧ ι2 = ι.take b)) : Stp ι0 H0 ι2 H := by
  rcases h with e | ⟨_, e⟩
  · rw [e]; exact st
  · rw [e]; exact st.take hb
/-! ### the rules -/
variable {X : Cx}
theorem ds_seq {st : Stmt} {rest : List Stmt} {f g : Sm} (h1 : PS X st (tS X.K W f)) (h2 : PSs X rest (tS X.K W g)) : PSs X (st :: rest) (tS X.K W (sSeq f g)) :=
  PSsimp (pss_cons h1 h2) fun D σ H ⟨ι, env, m, eo, mo, p⟩ => by
    refine ⟨ι, env, m, eo, mo, ?_⟩
    have p' : PostS X.K W D ι H ((f env m).seq g) := p
    cases q : f env m with
    | stuck => rw [q] at p'; exact p'
    | exc x e m1 => rw [q] at p'; exact p'
    | go fl e m1 =>
      rw [q] at p'
      cases fl with
      | nx => exact fun ι1 H1 σ1 st1 mo1 eo1 => ⟨ι1, e, m1, eo1, mo1, PostS.step st1 p'⟩
      | rt w => exact p'
      | bk => exact p'
      | ct => exact p'
theorem ds_nil : PSs X [] (tS X.K W sNop) := PSsimp pss_nil fun D σ H ⟨ι, env, m, eo, mo, p⟩ => p ι H σ .refl mo eo
theorem ds_one {st : Stmt} {f : Sm} (h : PS X st (tS X.K W f)) : PSs X [st] (tS X.K W f) := pss_one h
theorem ds_pass {pos : Pos} : PS X (.Pass pos) (tS X.K W sNop) := PSimp ps_pass fun D σ H ⟨ι, env, m, eo, mo, p⟩ => p ι H σ .refl mo eo
theorem ds_break {pos : Pos} : PS X (.Break pos) (tS X.K W sBk) := PSimp ps_break fun D σ H ⟨ι, env, m, eo, mo, p⟩ => p ι H σ .refl mo eo
theorem ds_continue {pos : Pos} : PS X (.Continue pos) (tS X.K W sCt) := PSimp ps_continue fun D σ H ⟨ι, env, m, eo, mo, p⟩ => p ι H σ .refl mo eo
theorem ds_expr {e : Expr} {pos : Pos} {f : Em Wd} (h : PE X e (tE X.K W f)) (hs : swapsWith e none pos.line X.env = pure false := by rfl) : PS X (.Expr e pos) (tS X.K W (sDrop f)) :=
  PSimp (ps_expr h hs) fun D σ H ⟨ι, env, m, eo, mo, p⟩ => PostS.bind eo mo p fun ι1 H1 a x m1 st1 mo1 eo1 ra p1 => p1 ι1 H1 σ .refl mo1 eo1
theorem ds_ret {e : Expr} {pos : Pos} {f : Em Wd} (h : PE X e (tE X.K W f)) : PS X (.Return (some e) pos) (tS X.K W (sRet f)) :=
  PSimp (ps_ret h) fun D σ H ⟨ι, env, m, eo, mo, p⟩ => PostS.bind eo mo p fun ι1 H1 a x m1 st1 mo1 eo1 ra p1 => p1 ι1 H1 x .refl mo1 ra
theorem ds_retN {pos : Pos} : PS X (.Return none pos) (tS X.K W sRetN) := PSimp ps_retN fun D σ H ⟨ι, env, m, eo, mo, p⟩ => p ι H .non .refl mo (.d .non)
theorem ds_if {c : Expr} {a b : List Stmt} {pos : Pos} {fc : Em Bool} {f g : Sm} (hc : PT X c (tT X.K W fc)) (ha : PSs X a (tS X.K W f)) (hb : PSs X b (tS X.K W g)) : PS X (.If c a b pos) (tS X.K W (sIf fc f g)) :=
  PSimp (ps_if hc ha hb) fun D σ H ⟨ι, env, m, eo, mo, p⟩ => PostS.bind eo mo p fun ι1 H1 a x m1 st1 mo1 eo1 ra p1 => by
    subst ra
    cases a with
    | true => exact ⟨ι1, env, m1, eo1, mo1, p1⟩
    | false => exact ⟨ι1, env, m1, eo1, mo1, p1⟩
theorem ds_set {i : Nat} {e : Expr} {x : Str} {pos pos' : Pos} {f : Em Wd} (h : PS X (.Assign [.Name x pos'] e pos) (tAsg (tE X.K W f) (gName i))) : PS X (.Assign [.Name x pos'] e pos) (tS X.K W (sSet i f)) :=
  PSimp h fun D σ H ⟨ι, env, m, eo, mo, p⟩ => PostS.bind eo mo p fun ι1 H1 a x m1 st1 mo1 eo1 ra p1 => p1 ι1 H1 _ .refl mo1 (eo1.set ra)
theorem ds_forget {st : Stmt} {f : Sm} (is : List Nat) (h : PS X st (tS X.K W f)) : PS X st (tS X.K W (sForget is f)) :=
  PSimp h fun D σ H ⟨ι, env, m, eo, mo, p⟩ => by
    refine ⟨ι, env, m, eo, mo, ?_⟩
    have p' : PostS X.K W D ι H ((f env m).seq fun env m => .go .nx (forget is env) m) := p
    cases q : f env m with
    | stuck => rw [q] at p'; exact p'
    | exc x e m1 => rw [q] at p'; exact p'
    | go fl e m1 =>
      rw [q] at p'
      cases fl with
      | nx => exact fun ι1 H1 σ1 st1 mo1 eo1 => p' ι1 H1 σ1 st1 mo1 (eo1.forget is)
      | rt w => exact p'
      | bk => exact p'
      | ct => exact p'
/-! ### targets -/
/-- what a target's store leaves: the slots that it names alone -/
structure Stored (K : PySem.W.Frag) (ι : List Addr) (H : Hp) (is : List Nat) (env' : Env) (σ σ' : L2.St) : Prop where
  len : σ'.length = σ.length
  out : ∀ i, i ∉ is → σ'[i]? = σ[i]?
  ok : EnvOk K ι H env' σ'
def GtOk (K : PySem.W.Frag) (t : Tg) (g : TG) : Prop := ∀ (ι : List Addr) (H : Hp) (m : Mm) (env env' : Env) (σ : L2.St) (w : Wd) (v : V) (Q : L2.St → Hp → Prop), MemOk K ι m H → EnvOk K ι H env σ → RelW K ι H w v → t.put w env = some env' →
  (∀ σ', Stored K ι H t.slots env' σ σ' → Q σ' H) → g v σ H Q
def GtsOk (K : PySem.W.Frag) (ts : List Tg) (g : TGs) : Prop := ∀ (ι : List Addr) (H : Hp) (m : Mm) (env env' : Env) (σ : L2.St) (ws : List Wd) (vs : List V) (Q : L2.St → Hp → Prop), MemOk K ι m H → EnvOk K ι H env σ → RelWs K ι H ws vs → Tg.putAll ts ws env = some env' →
  (∀ σ', Stored K ι H (Tg.slotsAll ts) env' σ σ' → Q σ' H) → g vs σ H Q
theorem gt_name {i : Nat} : GtOk K (.name i) (gName i) := by
  intro ι H m env env' σ w v Q mo eo r e h
  have e' : some (env.set i (some w)) = some env' := e
  cases e'
  exact h _ ⟨by simp, fun j hj => List.getElem?_set_ne (fun z => hj (by rw [← z]; exact List.mem_singleton.mpr rfl)), eo.set r⟩
theorem gts_nil : GtsOk K [] gNil := by
  intro ι H m env env' σ w v Q mo eo r e h
  cases r with
  | nil =>
    have e' : some env = some env' := e
    cases e'
    exact ⟨rfl, h _ ⟨rfl, fun _ _ => rfl, eo⟩⟩
  | cons _ _ => cases e
theorem gts_cons {t : Tg} {ts : List Tg} {g : TG} {gs : TGs} (h1 : GtOk K t g) (h2 : GtsOk K ts gs) : GtsOk K (t :: ts) (gCons g gs) := by
  intro ι H m env env' σ ws vs Q mo eo r e h
  cases r with
  | nil => cases e
  | cons ra rr =>
    rename_i w wr v vr
    have e' : ((t.put w env).bind fun env => Tg.putAll ts wr env) = some env' := e
    obtain ⟨e1, q1, q2⟩ := Option.bind_eq_some_iff.mp e'
    refine ⟨v, vr, rfl, h1 ι H m env e1 σ w v _ mo eo ra q1 fun σ1 s1 => ?_⟩
    refine h2 ι H m e1 env' σ1 wr vr Q mo s1.ok rr q2 fun σ2 s2 => h σ2 ⟨s2.len.trans s1.len, fun i hi => ?_, s2.ok⟩
    have hi' : i ∉ t.slots ++ Tg.slotsAll ts := hi
    rw [List.mem_append] at hi'
    rw [s2.out i fun z => hi' (.inr z), s1.out i fun z => hi' (.inl z)]
theorem putAll_length : ∀ {ts : List Tg} {ws : List Wd} {env env' : Env}, Tg.putAll ts ws env = some env' → ts.length = ws.length
  | [], [], _, _, _ => rfl
  | [], _ :: _, _, _, e => by cases e
  | _ :: _, [], _, _, e => by cases e
  | t :: ts, w :: ws, env, env', e => by
    have e' : ((t.put w env).bind fun env => Tg.putAll ts ws env) = some env' := e
    obtain ⟨e1, q1, q2⟩ := Option.bind_eq_some_iff.mp e'
    exact congrArg (· + 1) (putAll_length q2)
theorem gt_tup {ts : List Tg} {n : Nat} {gs : TGs} (h : GtsOk K ts gs) (hn : ts.length = n) : GtOk K (.tup ts) (gTup K n gs) := by
  intro ι H m env env' σ w v Q mo eo r e hq
  have e' : ((tupOf w).bind fun ws => Tg.putAll ts ws env) = some env' := e
  obtain ⟨ws, q1, q2⟩ := Option.bind_eq_some_iff.mp e'
  obtain ⟨a, vs, rfl, hs, rs⟩ := tupOf_ok q1 r
  refine ⟨a, vs, rfl, hs, ?_, h ι H m env env' σ ws vs Q mo eo rs q2 hq⟩
  rw [← rs.length, ← hn]
  exact (putAll_length q2).symm
theorem ds_asg {tg e : Expr} {pos : Pos} {t : Tg} {g : TG} {f : Em Wd} (h : PE X e (tE X.K W f)) (hg : PG X tg g) (hk : GtOk X.K t g) (hs : swapsWithSole [tg] e pos.line X.env = pure false := by rfl) (hw : swappedStores [tg] e X.env = pure none := by rfl)
    (h1 : (assignEach [tg] X.env).map (·.2) = [assign tg X.env] := by rfl) : PS X (.Assign [tg] e pos) (tS X.K W (sAsg t f)) :=
  PSimp (ps_asg h hg hs hw h1) fun D σ H ⟨ι, env, m, eo, mo, p⟩ => PostS.bind eo mo p fun ι1 H1 a x m1 st1 mo1 eo1 ra p1 => by
    cases q : t.put a env with
    | none => simp only [q] at p1; exact p1.elim
    | some e1 =>
      simp only [q] at p1
      exact hk ι1 H1 m1 env e1 σ a x _ mo1 eo1 ra q fun σ' s' => p1 ι1 H1 σ' .refl mo1 s'.ok
end
end DL
set_option Elab.async false
set_option linter.all false
set_option maxRecDepth 100000
set_option maxHeartbeats 2000000
namespace DL
open PySem PySem.Spec PyProof.Rows L2
open Classical in
/-- what must still stand while a thing is walked -/
noncomputable def gdOk (gd : List (Nat × Cell)) (m : Mm) : Bool := decide (∀ p ∈ gd, m.cells[p.1]? = some p.2)
abbrev Gd := List (Nat × Cell)
theorem gdOk_iff {gd : Gd} {m : Mm} : gdOk gd m = true ↔ ∀ p ∈ gd, m.cells[p.1]? = some p.2 := by
  unfold gdOk; simp
@[simp] theorem gdOk_nil {m : Mm} : gdOk [] m = true := gdOk_iff.mpr fun _ h => nomatch h
theorem gdOk_one {n : Nat} {c : Cell} {m : Mm} (h : m.cells[n]? = some c) : gdOk [(n, c)] m = true := gdOk_iff.mpr fun p hp => by rw [List.mem_singleton.mp hp]; exact h
/-! ### loops -/
def whN (c : Em Bool) (b : Sm) : Nat → Sm
  | 0 => fun _ _ => .stuck
  | n + 1 => fun env m => rs (c env m) env fun t m => if t = true then (match b env m with
    | .go .nx e m => whN c b n e m
    | .go .ct e m => whN c b n e m
    | .go .bk e m => .go .nx e m
    | r => r) else .go .nx env m
open Classical in
noncomputable def sWh (c : Em Bool) (b : Sm) : Sm := fun env m => if h : ∃ n, whN c b n env m ≠ .stuck then whN c b (Classical.choose h) env m else .stuck
theorem whN_mono {c : Em Bool} {b : Sm} : ∀ {n : Nat} {env : Env} {m : Mm}, whN c b n env m ≠ .stuck → whN c b (n + 1) env m = whN c b n env m
  | 0, env, m, h => absurd rfl h
  | n + 1, env, m, h => by
    have h' : (rs (c env m) env fun t m => if t = true then (match b env m with
      | .go .nx e m => whN c b n e m
      | .go .ct e m => whN c b n e m
      | .go .bk e m => .go .nx e m
      | r => r) else .go .nx env m) ≠ .stuck := h
    show (rs (c env m) env fun t m => if t = true then (match b env m with
      | .go .nx e m => whN c b (n + 1) e m
      | .go .ct e m => whN c b (n + 1) e m
      | .go .bk e m => .go .nx e m
      | r => r) else .go .nx env m) = (rs (c env m) env fun t m => if t = true then (match b env m with
      | .go .nx e m => whN c b n e m
      | .go .ct e m => whN c b n e m
      | .go .bk e m => .go .nx e m
      | r => r) else .go .nx env m)
    cases q : c env m with
    | stuck => rfl
    | exc x m1 => rfl
    | ok t m1 =>
      rw [q] at h'
      simp only [rs_ok] at h' ⊢
      cases t with
      | false => rfl
      | true =>
        simp only [if_true] at h' ⊢
        cases q2 : b env m1 with
        | stuck => rfl
        | exc x e m2 => rfl
        | go f e m2 =>
          rw [q2] at h'
          cases f with
          | nx => exact whN_mono h'
          | ct => exact whN_mono h'
          | bk => rfl
          | rt w => rfl
theorem whN_le {c : Em Bool} {b : Sm} {n k : Nat} {env : Env} {m : Mm} (h : whN c b n env m ≠ .stuck) : whN c b (n + k) env m = whN c b n env m := by
  induction k with
  | zero => rfl
  | succ k ih => rw [← Nat.add_assoc, whN_mono (by rw [ih]; exact h), ih]
theorem sWh_of {c : Em Bool} {b : Sm} {n : Nat} {env : Env} {m : Mm} {r : Sr} (h : whN c b n env m = r) (hr : r ≠ .stuck) : sWh c b env m = r := by
  have ex : ∃ n, whN c b n env m ≠ .stuck := ⟨n, by rw [h]; exact hr⟩
  unfold sWh
  rw [dif_pos ex]
  have h1 := Classical.choose_spec ex
  have e1 := whN_le (k := n) h1
  have e2 : whN c b (n + Classical.choose ex) env m = whN c b n env m := whN_le (by rw [h]; exact hr)
  rw [Nat.add_comm] at e2
  rw [← e1, e2, h]
/-- the while, one turn told -/
theorem sWh_unf {c : Em Bool} {b : Sm} {env : Env} {m : Mm} : sWh c b env m = rs (c env m) env fun t m => if t = true then (match b env m with
    | .go .nx e m => sWh c b e m
    | .go .ct e m => sWh c b e m
    | .go .bk e m => .go .nx e m
    | r => r) else .go .nx env m := by
  cases q : c env m with
  | stuck =>
    simp only [rs_stuck]
    unfold sWh
    rw [dif_neg]
    rintro ⟨n, hn⟩
    cases n with
    | zero => exact hn rfl
    | succ n => exact hn (by show rs (c env m) env _ = _; rw [q]; rfl)
  | exc x m1 => exact sWh_of (n := 1) (by show rs (c env m) env _ = _; rw [q]; rfl) (by simp)
  | ok t m1 =>
    simp only [rs_ok]
    cases t with
    | false => exact sWh_of (n := 1) (by show rs (c env m) env _ = _; rw [q]; rfl) (by simp)
    | true =>
      simp only [if_true]
      have step : ∀ n, whN c b (n + 1) env m = (match b env m1 with
        | .go .nx e m => whN c b n e m
        | .go .ct e m => whN c b n e m
        | .go .bk e m => .go .nx e m
        | r => r) := fun n => by
        show rs (c env m) env _ = _
        rw [q]; rfl
      have again : ∀ e m2, (∀ n, whN c b (n + 1) env m = whN c b n e m2) → sWh c b env m = sWh c b e m2 := fun e m2 h => by
        by_cases ex : ∃ n, whN c b n e m2 ≠ .stuck
        · obtain ⟨n, hn⟩ := ex
          rw [sWh_of (n := n + 1) (h n) hn, sWh_of (n := n) rfl hn]
        · have ex2 : ¬ ∃ n, whN c b n env m ≠ .stuck := by
            rintro ⟨n, hn⟩
            cases n with
            | zero => exact hn rfl
            | succ n => exact ex ⟨n, by rw [← h n]; exact hn⟩
          unfold sWh
          rw [dif_neg ex, dif_neg ex2]
      cases q2 : b env m1 with
      | stuck =>
        unfold sWh
        rw [dif_neg]
        rintro ⟨n, hn⟩
        cases n with
        | zero => exact hn rfl
        | succ n => exact hn (by rw [step n, q2])
      | exc x e m2 => exact sWh_of (n := 1) (by rw [step 0, q2]) (by simp)
      | go f e m2 =>
        cases f with
        | nx => exact again e m2 fun n => by rw [step n, q2]
        | ct => exact again e m2 fun n => by rw [step n, q2]
        | bk => exact sWh_of (n := 1) (by rw [step 0, q2]) (by simp)
        | rt w => exact sWh_of (n := 1) (by rw [step 0, q2]) (by simp)
/-- over the items of a list -/
noncomputable def forL (t : Tg) (b : Sm) (gd : Gd) : List Wd → Sm
  | [] => fun env m => if gdOk gd m = true then .go .nx env m else .stuck
  | w :: ws => fun env m => if gdOk gd m = true then (match t.put w env with
    | none => .stuck
    | some e => match b e m with
      | .go .nx e m => forL t b gd ws e m
      | .go .ct e m => forL t b gd ws e m
      | .go .bk e m => .go .nx e m
      | r => r) else .stuck
noncomputable def sFor (s : Em (List Wd × Gd)) (t : Tg) (b : Sm) : Sm := fun env m => rs (s env m) env fun p m => forL t b p.2 p.1 env m
/-- a comprehension's items -/
noncomputable def lcL (t : Tg) (c : Em Bool) (f : Em Wd) (gd : Gd) (env : Env) : List Wd → List Wd → Mm → Rs (List Wd)
  | [], acc, m => if gdOk gd m = true then .ok acc m else .stuck
  | w :: ws, acc, m => if gdOk gd m = true then (match t.put w env with
    | none => .stuck
    | some e => (c e m).bind fun b m => if b = true then (f e m).bind fun x m => (if acc.length < LIM then lcL t c f gd env ws (acc ++ [x]) m else .stuck) else lcL t c f gd env ws acc m) else .stuck
noncomputable def eLc (s : Em (List Wd × Gd)) (t : Tg) (c : Em Bool) (f : Em Wd) (own : List Nat) : Em Wd := fun env m => (s env m).bind fun p m => match lcL t c f p.2 (forget own env) p.1 [] m with
  | .ok xs m => .ok (.ref m.cells.length) (m.push (.lst xs))
  | _ => .stuck

section
variable {K : PySem.W.Frag} {W : L2.WX} {ι ι' ι0 : List Addr} {H H' H0 : Hp} {env : Env} {σ : L2.St} {m : Mm} {X : Cx}
theorem closeS_step {n0 : Nat} {held : Bool} (mo : MemOk K ι m H) (st : Stp ι0 H0 ι H) (hb : ι0.length ≤ n0) : ∃ ι2, Stp ι0 H0 ι2 H ∧ MemOk K ι2 (m.closeS n0 held) H ∧ (ι2 = ι ∨ (held = true ∧ ι2 = ι.take n0)) := by
  obtain ⟨ι2, _, h2, h3⟩ := mo.closeS (n0 := n0) (held := held)
  refine ⟨ι2, ?_, h2, h3⟩
  rcases h3 with e | ⟨_, e⟩
  · rw [e]; exact st
  · rw [e]; exact st.take hb
theorem ds_scope {b : List Stmt} {f : Sm} (h : PSs X b (tS X.K W f)) : PSs X b (tS X.K W (sScope f)) :=
  PSsimp h fun D σ H ⟨ι, env, m, eo, mo, p⟩ => by
    refine ⟨ι, env, m.openS, eo, mo.openS, ?_⟩
    have p' : PostS X.K W D ι H ((f env m.openS).close m.cells.length) := p
    have hb : ι.length ≤ m.cells.length := Nat.le_of_eq mo.len
    have go : ∀ {ι1 : List Addr} {H1 : Hp} {σ1 : L2.St} {e : Env} {m1 : Mm} {R : L2.St → Hp → Prop}, (∀ ι2 H2 σ2, Stp ι H ι2 H2 → MemOk X.K ι2 (m1.closeS m.cells.length (envLt m.cells.length e)) H2 → EnvOk X.K ι2 H2 e σ2 → R σ2 H2) → Stp ι H ι1 H1 → MemOk X.K ι1 m1 H1 → EnvOk X.K ι1 H1 e σ1 → R σ1 H1 := fun {ι1 H1 σ1 e m1 R} hR st mo1 eo1 => by
      obtain ⟨ι2, s2, m2, z⟩ := closeS_step (n0 := m.cells.length) (held := envLt m.cells.length e) mo1 st hb
      refine hR ι2 H1 σ1 s2 m2 ?_
      rcases z with z | ⟨z1, z2⟩
      · rw [z]; exact eo1
      · rw [z2]; exact eo1.take z1
    cases q : f env m.openS with
    | stuck => rw [q] at p'; exact p'
    | exc x e m1 =>
      rw [q] at p'
      intro ι1 H1 σ1 cls d st mo1 eo1 xo
      obtain ⟨ι2, s2, m2, z⟩ := closeS_step (n0 := m.cells.length) (held := false) mo1 st hb
      rcases z with z | ⟨z1, z2⟩
      · rw [z] at s2 m2; exact p' ι1 H1 σ1 cls d s2 m2 eo1 xo
      · cases z1
    | go fl e m1 =>
      rw [q] at p'
      cases fl with
      | nx => exact fun ι1 H1 σ1 st1 mo1 eo1 => go (R := D.nx) p' st1 mo1 eo1
      | bk => exact fun ι1 H1 σ1 st1 mo1 eo1 => go (R := D.bk) p' st1 mo1 eo1
      | ct => exact fun ι1 H1 σ1 st1 mo1 eo1 => go (R := D.ct) p' st1 mo1 eo1
      | rt w =>
        intro ι1 H1 v st1 mo1 r
        obtain ⟨ι2, s2, m2, z⟩ := closeS_step (n0 := m.cells.length) (held := w.lt m.cells.length) mo1 st1 hb
        refine p' ι2 H1 v s2 m2 ?_
        rcases z with z | ⟨z1, z2⟩
        · rw [z]; exact r
        · rw [z2]; exact r.take z1
theorem ds_while {c : Expr} {body : List Stmt} {pos : Pos} {fc : Em Bool} {b : Sm} (hp : PassesOwn (model X.prog X.w) X.A X.env X.xe) (hc : PT X c (tT X.K W fc)) (hb : PSs X body (tS X.K W b)) : PS X (.While c body [] pos) (tS X.K W (sWh fc b)) :=
  PSimp (ps_while hp hc hb) fun D σ H ⟨ι, env, m, eo, mo, p⟩ => by
    have ex : ∃ n, whN fc b n env m ≠ .stuck := by
      by_cases ex : ∃ n, whN fc b n env m ≠ .stuck
      · exact ex
      · have : sWh fc b env m = .stuck := by unfold sWh; rw [dif_neg ex]
        rw [this] at p; exact p.elim
    obtain ⟨n0, hn0⟩ := ex
    rw [sWh_of (n := n0) rfl hn0] at p
    refine ⟨fun n σ' H' => ∃ ι' env' m', Stp ι H ι' H' ∧ EnvOk X.K ι' H' env' σ' ∧ MemOk X.K ι' m' H' ∧ PostS X.K W D ι' H' (whN fc b n env' m'), ⟨n0, ι, env, m, .refl, eo, mo, p⟩, ?_⟩
    rintro n σ' H' ⟨ι', env', m', st, eo', mo', p'⟩
    cases n with
    | zero => exact p'.elim
    | succ n =>
      have p2 : PostS X.K W D ι' H' (rs (fc env' m') env' fun t m => if t = true then (match b env' m with
        | .go .nx e m => whN fc b n e m
        | .go .ct e m => whN fc b n e m
        | .go .bk e m => .go .nx e m
        | r => r) else .go .nx env' m) := p'
      refine PostS.bind eo' mo' p2 fun ι1 H1 t x m1 st1 mo1 eo1 ra p1 => ?_
      subst ra
      cases t with
      | false => exact p1 ι1 H1 σ' .refl mo1 eo1
      | true =>
        simp only [if_true] at p1 ⊢
        refine ⟨fun σ2 H2 => ∃ ι2 env2 m2, Stp ι1 H1 ι2 H2 ∧ EnvOk X.K ι2 H2 env2 σ2 ∧ MemOk X.K ι2 m2 H2 ∧ PostS X.K W D ι2 H2 (whN fc b n env2 m2), fun σ2 H2 ⟨ι2, env2, m2, s2, eo2, mo2, q2⟩ => ⟨n, Nat.lt_succ_self n, ι2, env2, m2, (st.trans st1).trans s2, eo2, mo2, q2⟩, ι1, env', m1, eo1, mo1, ?_⟩
        cases q : b env' m1 with
        | stuck => rw [q] at p1; exact p1
        | exc x e m2 => rw [q] at p1; exact p1
        | go f e m2 =>
          rw [q] at p1
          cases f with
          | nx => exact fun ι2 H2 σ2 s2 mo2 eo2 => ⟨ι2, e, m2, s2, eo2, mo2, PostS.step s2 p1⟩
          | ct => exact fun ι2 H2 σ2 s2 mo2 eo2 => ⟨ι2, e, m2, s2, eo2, mo2, PostS.step s2 p1⟩
          | bk => exact p1
          | rt w => exact p1
/-! ### what is walked -/
structure Src (K : PySem.W.Frag) (J : It) (xs : List Wd) (gd : Gd) (ι0 : List Addr) (H0 : Hp) : Prop where
  go : ∀ (i : Nat) ι m H, i < xs.length → Stp ι0 H0 ι H → MemOk K ι m H → gdOk gd m = true → J.go i H
  yld : ∀ (i : Nat) ι m H x H' w, Stp ι0 H0 ι H → MemOk K ι m H → gdOk gd m = true → J.yld i H x H' → xs[i]? = some w → Stp ι H ι H' ∧ MemOk K ι m H' ∧ RelW K ι H' w x
  stop : ∀ (i : Nat) ι m H, xs.length ≤ i → Stp ι0 H0 ι H → MemOk K ι m H → gdOk gd m = true → J.stop i H
def tI (K : PySem.W.Frag) (W : L2.WX) (s : Em (List Wd × Gd)) : TI := fun σ H R => ∃ ι env m, EnvOk K ι H env σ ∧ MemOk K ι m H ∧ match s env m with
  | .ok (xs, gd) m1 => ∀ ι1 H1 J, Stp ι H ι1 H1 → MemOk K ι1 m1 H1 → Src K J xs gd ι1 H1 → R J H1
  | .exc x m1 => ∀ ι1 H1 cls d, Stp ι H ι1 H1 → MemOk K ι1 m1 H1 → ExOk K ι1 H1 x cls d → W cls d σ H1
  | .stuck => False
theorem PIimp {tg e : Expr} {w w' : TI} (h : PI X tg e w) (i : ∀ σ H R, w' σ H R → w σ H R) : PI X tg e w' := ⟨fun pins s σ H R I hw => h.run pins s σ H R I (i σ H R hw)⟩
theorem PIor {tg e : Expr} {w w' : TI} (h : PI X tg e w) (h' : PI X tg e w') : PI X tg e (fun σ H R => w σ H R ∨ w' σ H R) := ⟨fun pins s σ H R I hw => hw.elim (h.run pins s σ H R I) (h'.run pins s σ H R I)⟩
theorem ds_for {tg iter : Expr} {body : List Stmt} {pos : Pos} {s : Em (List Wd × Gd)} {t : Tg} {g : TG} {b : Sm} (hp : PassesOwn (model X.prog X.w) X.A X.env X.xe) (hc : X.calm = true) (hi : PI X tg iter (tI X.K W s)) (hg : PG X tg g) (hk : GtOk X.K t g) (hb : PSs X body (tS X.K W b))
    (hs : ∀ x, foldedSetIterable iter X.env x = pure x := by intro _; rfl) : PS X (.For tg iter body [] pos) (tS X.K W (sFor s t b)) :=
  PSimp (ps_for hp hc hi hg hb hs) fun D σ H ⟨ι, env, m, eo, mo, p⟩ => by
    refine ⟨ι, env, m, eo, mo, ?_⟩
    have p' : PostS X.K W D ι H (rs (s env m) env fun p m => forL t b p.2 p.1 env m) := p
    cases q : s env m with
    | stuck => rw [q] at p'; exact p'.elim
    | exc x m1 => rw [q] at p'; exact fun ι1 H1 cls d st mo1 xo => p' ι1 H1 σ cls d st mo1 (eo.step mo.apart st) xo
    | ok pr m1 =>
      obtain ⟨xs, gd⟩ := pr
      rw [q] at p'
      intro ι1 H1 J st1 mo1 sr
      have p1 : PostS X.K W D ι1 H1 (forL t b gd xs env m1) := PostS.step st1 p'
      refine ⟨fun i n σ' H' => n = xs.length - i ∧ i ≤ xs.length ∧ ∃ ι' env' m', Stp ι1 H1 ι' H' ∧ EnvOk X.K ι' H' env' σ' ∧ MemOk X.K ι' m' H' ∧ PostS X.K W D ι' H' (forL t b gd (xs.drop i) env' m'), ⟨xs.length, by simp, Nat.zero_le _, ι1, env, m1, .refl, eo.step mo.apart st1, mo1, p1⟩, ?_⟩
      rintro i n σ' H' ⟨hn, hi', ι', env', m', st', eo', mo', pp⟩
      by_cases hlt : i < xs.length
      · rw [List.drop_eq_getElem_cons hlt] at pp
        have pp' : PostS X.K W D ι' H' (if gdOk gd m' = true then (match t.put xs[i] env' with
          | none => .stuck
          | some e => match b e m' with
            | .go .nx e m => forL t b gd (xs.drop (i + 1)) e m
            | .go .ct e m => forL t b gd (xs.drop (i + 1)) e m
            | .go .bk e m => .go .nx e m
            | r => r) else .stuck) := pp
        by_cases hgd : gdOk gd m' = true
        · rw [if_pos hgd] at pp'
          refine .inr ⟨sr.go i ι' m' H' hlt st' mo' hgd, fun σ2 H2 => ∃ ι2 env2 m2, Stp ι1 H1 ι2 H2 ∧ EnvOk X.K ι2 H2 env2 σ2 ∧ MemOk X.K ι2 m2 H2 ∧ PostS X.K W D ι2 H2 (forL t b gd (xs.drop (i + 1)) env2 m2), fun σ2 H2 h2 => ⟨xs.length - (i + 1), by omega, rfl, hlt, h2⟩, fun x H2 hy => ?_⟩
          obtain ⟨s2, mo2, r2⟩ := sr.yld i ι' m' H' x H2 xs[i] st' mo' hgd hy (List.getElem?_eq_getElem hlt)
          cases qp : t.put xs[i] env' with
          | none => rw [qp] at pp'; exact pp'.elim
          | some e =>
            rw [qp] at pp'
            refine hk ι' H2 m' env' e σ' xs[i] x _ mo2 (eo'.step mo'.apart s2) r2 qp fun σ3 s3 => ⟨ι', e, m', s3.ok, mo2, ?_⟩
            simp only [] at pp'
            cases qb : b e m' with
            | stuck => rw [qb] at pp'; exact pp'
            | exc x e1 m2 => rw [qb] at pp'; exact PostS.step s2 pp'
            | go f e1 m2 =>
              rw [qb] at pp'
              cases f with
              | nx => exact fun ι4 H4 σ4 s4 mo4 eo4 => ⟨ι4, e1, m2, (st'.trans s2).trans s4, eo4, mo4, PostS.step (s2.trans s4) pp'⟩
              | ct => exact fun ι4 H4 σ4 s4 mo4 eo4 => ⟨ι4, e1, m2, (st'.trans s2).trans s4, eo4, mo4, PostS.step (s2.trans s4) pp'⟩
              | bk => exact fun ι4 H4 σ4 s4 mo4 eo4 => pp' ι4 H4 σ4 (s2.trans s4) mo4 eo4
              | rt w => exact fun ι4 H4 σ4 s4 mo4 eo4 => pp' ι4 H4 σ4 (s2.trans s4) mo4 eo4
        · rw [if_neg hgd] at pp'; exact pp'.elim
      · have e : i = xs.length := by omega
        subst e
        rw [List.drop_length] at pp
        have pp' : PostS X.K W D ι' H' (if gdOk gd m' = true then .go .nx env' m' else .stuck) := pp
        by_cases hgd : gdOk gd m' = true
        · rw [if_pos hgd] at pp'
          exact .inl ⟨sr.stop _ ι' m' H' (Nat.le_refl _) st' mo' hgd, pp' ι' H' σ' .refl mo' eo'⟩
        · rw [if_neg hgd] at pp'; exact pp'.elim
end
end DL
set_option Elab.async false
set_option linter.all false
set_option maxRecDepth 100000
set_option maxHeartbeats 2000000
namespace DL
open PySem PySem.Spec PyProof.Rows L2
section
variable {K : PySem.W.Frag} {W : L2.WX} {ι ι' ι0 : List Addr} {H H' H0 : Hp} {env : Env} {σ : L2.St} {m : Mm} {X : Cx}
/-! ### a list that is tracked beside the cells -/
structure Kept (K : PySem.W.Frag) (ι : List Addr) (H : Hp) (ι' : List Addr) (H' : Hp) : Prop where
  pre : ι <+: ι'
  tup : ∀ a xs, SqT K H a xs → SqT K H' a xs
  rol : ∀ a xs, Rol K H a xs → Rol K H' a xs
mutual
theorem RelD.keep (k : Kept K ι H ι' H') : ∀ {d : PyData} {v : V}, RelD K H d v → RelD K H' d v
  | _, _, .non => .non
  | _, _, .bl b => .bl b
  | _, _, .int i => .int i
  | _, _, .str x => .str x
  | _, _, .tup h hs => .tup (k.tup _ _ h) (RelDs.keep k hs)
theorem RelDs.keep (k : Kept K ι H ι' H') : ∀ {d : List PyData} {v : List V}, RelDs K H d v → RelDs K H' d v
  | _, _, .nil => .nil
  | _, _, .cons h hs => .cons (RelD.keep k h) (RelDs.keep k hs)
end
mutual
theorem RelW.keep (k : Kept K ι H ι' H') : ∀ {d : Wd} {v : V}, RelW K ι H d v → RelW K ι' H' d v
  | _, _, .d h => .d (h.keep k)
  | _, _, .ref h => .ref (pre_get k.pre h)
  | _, _, .tup h hs => .tup (k.tup _ _ h) (RelWs.keep k hs)
  | _, _, .rol h hs => .rol (k.rol _ _ h) (RelWs.keep k hs)
  | _, _, .v x => .v x
theorem RelWs.keep (k : Kept K ι H ι' H') : ∀ {d : List Wd} {v : List V}, RelWs K ι H d v → RelWs K ι' H' d v
  | _, _, .nil => .nil
  | _, _, .cons h hs => .cons (RelW.keep k h) (RelWs.keep k hs)
end
theorem KvOk.keep (k : Kept K ι H ι' H') : ∀ {d : List (PyData × Wd)} {v : List (Key × V)}, KvOk K ι H d v → KvOk K ι' H' d v
  | [], [], _ => True.intro
  | (_, _) :: _, (_, _) :: _, ⟨h1, h2, h3⟩ => ⟨h1, h2.keep k, KvOk.keep k h3⟩
  | [], _ :: _, h => h.elim
  | _ :: _, [], h => h.elim
theorem FsOk.keep (k : Kept K ι H ι' H') : ∀ {d : List (Str × Wd)} {v : List (Str × V)}, FsOk K ι H d v → FsOk K ι' H' d v
  | [], [], _ => True.intro
  | (_, _) :: _, (_, _) :: _, ⟨h1, h2, h3⟩ => ⟨h1, h2.keep k, FsOk.keep k h3⟩
  | [], _ :: _, h => h.elim
  | _ :: _, [], h => h.elim
theorem CellOk.keep {a : Addr} {c : Cell} (k : Kept K ι H ι' H') (ha : H' a = H a) (h : CellOk K ι H a c) : CellOk K ι' H' a c := by
  cases c with
  | lst xs => obtain ⟨vs, e, r⟩ := h; exact ⟨vs, ha.trans e, r.keep k⟩
  | dct kvs => obtain ⟨ks, e, r⟩ := h; exact ⟨ks, ha.trans e, r.keep k⟩
  | ins c fs => obtain ⟨C, dx, gs, e0, e, r⟩ := h; exact ⟨C, dx, gs, e0, ha.trans e, r.keep k⟩
/-- a tracked list at D, no cell, is changed -/
theorem kept_upd {D : Addr} {xs ys : List V} (hD : H D = some (.lst xs)) : Kept K ι H ι (upd H D (.lst ys)) where
  pre := List.prefix_refl _
  tup := fun a zs h => by
    rcases h with h | h
    · have n : a ≠ D := fun e => by
        subst e
        rcases h with h | ⟨o, h⟩
        · rw [hD] at h; cases h
        · rw [hD] at h; cases h
      rcases h with h | ⟨o, h⟩
      · exact .inl (.inl (by rw [upd_ne n]; exact h))
      · exact .inl (.inr ⟨o, by rw [upd_ne n]; exact h⟩)
    · exact .inr h
  rol := fun a zs h => by
    rcases h with ⟨o, h⟩ | h
    · have n : a ≠ D := fun e => by rw [e, hD] at h; cases h
      exact .inl ⟨o, by rw [upd_ne n]; exact h⟩
    · exact .inr h
theorem kept_more {D : Addr} : Kept K ι H (ι ++ [D]) H := ⟨List.prefix_append _ _, fun _ _ h => h, fun _ _ h => h⟩
theorem MemOk.upd {D : Addr} {xs ys : List V} (mo : MemOk K ι m H) (hD : H D = some (.lst xs)) (hn : D ∉ ι) : MemOk K ι m (upd H D (.lst ys)) :=
  ⟨mo.len, mo.nd, fun n a c h1 h2 => (mo.cell n a c h1 h2).keep (kept_upd hD) (upd_ne fun e => hn (by rw [← e]; exact List.mem_of_getElem? h1)), mo.top, mo.ord, mo.clean⟩
/-- it becomes a cell -/
theorem MemOk.adopt {D : Addr} {ws : List Wd} {xs : List V} (mo : MemOk K ι m H) (hD : H D = some (.lst xs)) (hn : D ∉ ι) (r : RelWs K ι H ws xs) : MemOk K (ι ++ [D]) (m.push (.lst ws)) H := by
  refine ⟨by simp [Mm.push, mo.len], ?_, fun n a c' h1 h2 => ?_, fun q hq => ?_, mo.ord, fun q hq n c' hlt hd hc => ?_⟩
  · rw [List.nodup_append]
    exact ⟨mo.nd, by simp, fun a ha b hb e => hn (by rw [List.mem_singleton.mp hb] at e; rw [← e]; exact ha)⟩
  · by_cases hlt : n < ι.length
    · rw [List.getElem?_append_left hlt] at h1
      have h2' : m.cells[n]? = some c' := by
        have : (m.cells ++ [Cell.lst ws])[n]? = some c' := h2
        rwa [List.getElem?_append_left (by rw [← mo.len]; exact hlt)] at this
      exact (mo.cell n a c' h1 h2').keep kept_more rfl
    · have hl := get_of h1
      rw [List.length_append, List.length_singleton] at hl
      have e : n = ι.length := by omega
      subst e
      have e1 : a = D := by simpa using h1.symm
      have e2 : c' = Cell.lst ws := by
        have : (m.cells ++ [Cell.lst ws])[ι.length]? = some c' := h2
        rw [mo.len] at this
        simpa using this.symm
      subst e1; subst e2
      exact ⟨xs, hD, r.keep kept_more⟩
  · have := mo.top q hq
    show q.1 ≤ (m.cells ++ [Cell.lst ws]).length
    rw [List.length_append]; omega
  · have ht := mo.top q hq
    have hc' : (m.cells ++ [Cell.lst ws])[n]? = some c' := hc
    rw [List.getElem?_append_left (by omega)] at hc'
    exact mo.clean q hq n c' hlt hd hc'
theorem wipe_env : ∀ {vs : List Nat} {env : Env} {σ : L2.St}, EnvOk K ι H env σ → EnvOk K ι H (forget vs env) (wipe σ vs)
  | [], _, _, h => h
  | v :: vs, env, σ, h => by
    have ih := wipe_env (vs := vs) h
    refine ⟨by simp [forget, wipe, ih.1], fun j u e => ?_⟩
    have e' : ((forget vs env).set v none)[j]? = some (some u) := e
    by_cases hj : j = v
    · subst hj
      have hl := get_of e'
      rw [List.length_set] at hl
      rw [List.getElem?_set_self hl] at e'
      cases e'
    · rw [List.getElem?_set_ne (Ne.symm hj)] at e'
      obtain ⟨x, e1, r⟩ := ih.2 j u e'
      exact ⟨x, by show ((wipe σ vs).set v none)[j]? = _; rw [List.getElem?_set_ne (Ne.symm hj)]; exact e1, r⟩
theorem wipe_same : ∀ {vs : List Nat} {σ σ' : L2.St}, σ'.length = σ.length → (∀ i, i ∉ vs → σ'[i]? = σ[i]?) → wipe σ' vs = wipe σ vs := by
  intro vs σ σ' hl h
  have get : ∀ (vs : List Nat) (σ : L2.St) (i : Nat), (wipe σ vs)[i]? = if i ∈ vs then (if i < σ.length then some none else none) else σ[i]? := by
    intro vs
    induction vs with
    | nil => intro σ i; simp [wipe]
    | cons v vs ih =>
      intro σ i
      show ((wipe σ vs).set v none)[i]? = _
      by_cases e : i = v
      · subst e
        rw [if_pos List.mem_cons_self]
        by_cases hi : i < σ.length
        · rw [if_pos hi, List.getElem?_set_self (by rw [wipe_length]; exact hi)]
        · rw [if_neg hi, List.getElem?_eq_none (by rw [List.length_set, wipe_length]; omega)]
      · rw [List.getElem?_set_ne (Ne.symm e), ih]
        by_cases hm : i ∈ vs
        · rw [if_pos hm, if_pos (List.mem_cons_of_mem _ hm)]
        · rw [if_neg hm, if_neg (fun z => (List.mem_cons.mp z).elim e hm)]
  apply List.ext_getElem?
  intro i
  rw [get, get, hl]
  split
  · rfl
  · exact h i (by assumption)
/-- the comprehension's reading -/
theorem post_lc {s : Em (List Wd × Gd)} {t : Tg} {g : TG} {c : Em Bool} {f : Em Wd} {own : List Nat} {Q : VK} (hk : GtOk K t g) (hsub : ∀ i ∈ t.slots, i ∈ own) (h : tE K W (eLc s t c f own) σ H Q) : tLc (tI K W s) g (tT K W0 c) (tE K W0 f) own σ H Q := by
  obtain ⟨ι, env, m, eo, mo, p⟩ := h
  refine ⟨ι, env, m, eo, mo, ?_⟩
  have p' : Post K W (RelW K) ι H σ Q ((s env m).bind fun p m => match lcL t c f p.2 (forget own env) p.1 [] m with
    | .ok xs m => .ok (.ref m.cells.length) (m.push (.lst xs))
    | _ => .stuck) := p
  cases q : s env m with
  | stuck => rw [q] at p'; exact p'.elim
  | exc x m1 => rw [q] at p'; exact p'
  | ok pr m1 =>
    obtain ⟨xs, gd⟩ := pr
    rw [q] at p'
    simp only [Rs.bind_ok] at p'
    intro ι1 H1 J st1 mo1 sr D hD
    have nD1 : D ∉ ι1 := mo1.new hD
    have eo1 : EnvOk K ι1 H1 (forget own env) (wipe σ own) := wipe_env (eo.step mo.apart st1)
    -- the end, once the items are known
    let R : Rs (List Wd) → Prop := fun r => match r with
      | .ok ys m2 => ∀ ι2 H2 vs, Stp ι1 H1 ι2 H2 → MemOk K ι2 m2 H2 → D ∉ ι2 → H2 D = some (.lst vs) → RelWs K ι2 H2 ys vs → Q (.ref D) H2
      | _ => False
    have hR : R (lcL t c f gd (forget own env) xs [] m1) := by
      cases q2 : lcL t c f gd (forget own env) xs [] m1 with
      | ok ys m2 =>
        rw [q2] at p'
        intro ι2 H2 vs s2 mo2 nD e2 r2
        have hs : Stp ι H (ι2 ++ [D]) H2 := by
          have hst := st1.trans s2
          refine ⟨hst.pre.trans (List.prefix_append _ _), fun a ha n => ?_, hst.fix⟩
          rcases List.mem_append.mp ha with z | z
          · exact hst.new a z n
          · rw [List.mem_singleton.mp z] at n ⊢
            cases e : H D with
            | none => rfl
            | some o => rw [st1.fix D o e n] at hD; cases hD
        exact p' (ι2 ++ [D]) H2 (.ref D) hs (mo2.adopt e2 nD r2) (.ref (by rw [← mo2.len]; simp))
      | exc x m2 => rw [q2] at p'; exact p'.elim
      | stuck => rw [q2] at p'; exact p'.elim
    refine ⟨fun i n H' => n = xs.length - i ∧ i ≤ xs.length ∧ ∃ ι' m' acc vacc, Stp ι1 H1 ι' H' ∧ MemOk K ι' m' H' ∧ EnvOk K ι' H' (forget own env) (wipe σ own) ∧ D ∉ ι' ∧ H' D = some (.lst vacc) ∧ RelWs K ι' H' acc vacc ∧ R (lcL t c f gd (forget own env) (xs.drop i) acc m'), ⟨xs.length, by simp, Nat.zero_le _, ι1, m1, [], [], ?_, ?_, ?_, nD1, upd_same, .nil, hR⟩, ?_⟩
    · exact stp_tup hD
    · exact mo1.stay (ι' := ι1) (stp_tup hD) fun a ha => upd_ne fun e => nD1 (by rw [← e]; exact ha)
    · exact eo1.step mo1.apart (stp_tup hD)
    rintro i n H' ⟨hn, hi', ι', m', acc, vacc, st', mo', eo', nD, eD, ra, hr⟩
    by_cases hlt : i < xs.length
    · rw [List.drop_eq_getElem_cons hlt] at hr
      have hr' : R (if gdOk gd m' = true then (match t.put xs[i] (forget own env) with
        | none => .stuck
        | some e => (c e m').bind fun b m => if b = true then (f e m).bind fun x m => (if acc.length < LIM then lcL t c f gd (forget own env) (xs.drop (i + 1)) (acc ++ [x]) m else .stuck) else lcL t c f gd (forget own env) (xs.drop (i + 1)) acc m) else .stuck) := hr
      by_cases hgd : gdOk gd m' = true
      · rw [if_pos hgd] at hr'
        refine .inr ⟨sr.go i ι' m' H' hlt st' mo' hgd, fun H2 => ∃ ι2 m2 acc vacc, Stp ι1 H1 ι2 H2 ∧ MemOk K ι2 m2 H2 ∧ EnvOk K ι2 H2 (forget own env) (wipe σ own) ∧ D ∉ ι2 ∧ H2 D = some (.lst vacc) ∧ RelWs K ι2 H2 acc vacc ∧ R (lcL t c f gd (forget own env) (xs.drop (i + 1)) acc m2), fun H2 h2 => ⟨xs.length - (i + 1), by omega, rfl, hlt, h2⟩, fun x H2 hy => ?_⟩
        obtain ⟨s2, mo2, r2⟩ := sr.yld i ι' m' H' x H2 xs[i] st' mo' hgd hy (List.getElem?_eq_getElem hlt)
        cases qp : t.put xs[i] (forget own env) with
        | none => rw [qp] at hr'; exact hr'.elim
        | some e =>
          rw [qp] at hr'
          refine hk ι' H2 m' (forget own env) e (wipe σ own) xs[i] x _ mo2 (eo'.step mo'.apart s2) r2 qp fun σ3 s3 => ⟨?_, ?_⟩
          · refine (wipe_same s3.len fun i hi => s3.out i fun z => hi (hsub i z)).trans ?_
            exact wipe_same (by rw [wipe_length]) fun i hi => by rw [wipe_out hi]
          · simp only [] at hr'
            have eD2 : H2 D = some (.lst vacc) := s2.fix D _ eD nD
            -- the test
            refine ⟨ι', e, m', s3.ok, mo2, ?_⟩
            cases qc : c e m' with
            | stuck => rw [qc] at hr'; exact hr'.elim
            | exc x m2 => rw [qc] at hr'; exact hr'.elim
            | ok b m2 =>
              rw [qc] at hr'
              simp only [Rs.bind_ok] at hr'
              intro ι3 H3 b' s4 mo4 eb
              subst eb
              have nD3 : D ∉ ι3 := fun z => by have := s4.new D z nD; rw [eD2] at this; cases this
              have eD3 : H3 D = some (.lst vacc) := s4.fix D _ eD2 nD
              cases b with
              | false =>
                rw [if_neg (by decide)] at hr' ⊢
                exact ⟨ι3, m2, acc, vacc, (st'.trans s2).trans s4, mo4, (eo'.step mo'.apart s2).step mo2.apart s4, nD3, eD3, (ra.step mo'.apart s2).step mo2.apart s4, hr'⟩
              | true =>
                rw [if_pos rfl] at hr' ⊢
                refine ⟨ι3, e, m2, s3.ok.step mo2.apart s4, mo4, ?_⟩
                cases qf : f e m2 with
                | stuck => rw [qf] at hr'; exact hr'.elim
                | exc x m3 => rw [qf] at hr'; exact hr'.elim
                | ok y m3 =>
                  rw [qf] at hr'
                  simp only [Rs.bind_ok] at hr'
                  intro ι4 H4 v s5 mo5 ry
                  have nD4 : D ∉ ι4 := fun z => by have := s5.new D z nD3; rw [eD3] at this; cases this
                  have eD4 : H4 D = some (.lst vacc) := s5.fix D _ eD3 nD3
                  have ra4 := ((ra.step mo'.apart s2).step mo2.apart s4).step mo4.apart s5
                  by_cases hl : acc.length < LIM
                  · rw [if_pos hl] at hr'
                    have hl2 : vacc.length < sizeLine := by rw [← ra4.length, ← LIM_eq]; exact hl
                    have k := kept_upd (K := K) (ι := ι4) (ys := vacc ++ [v]) eD4
                    refine ⟨vacc, eD4, hl2, ι4, m3, acc ++ [y], vacc ++ [v], ?_, mo5.upd eD4 nD4, ?_, nD4, upd_same, (ra4.keep k).append (.cons (ry.keep k) .nil), hr'⟩
                    · have s6 := ((st'.trans s2).trans s4).trans s5
                      exact ⟨s6.pre, s6.new, fun a o h n => by rw [upd_ne (ne_of_none h hD)]; exact s6.fix a o h n⟩
                    · have e5 := ((eo'.step mo'.apart s2).step mo2.apart s4).step mo4.apart s5
                      exact ⟨e5.1, fun j w q => let ⟨v, q1, r⟩ := e5.2 j w q; ⟨v, q1, r.keep k⟩⟩
                  · rw [if_neg hl] at hr'; exact hr'.elim
      · rw [if_neg hgd] at hr'; exact hr'.elim
    · have e : i = xs.length := by omega
      subst e
      rw [List.drop_length] at hr
      have hr' : R (if gdOk gd m' = true then .ok acc m' else .stuck) := hr
      by_cases hgd : gdOk gd m' = true
      · rw [if_pos hgd] at hr'
        exact .inl ⟨sr.stop _ ι' m' H' (Nat.le_refl _) st' mo' hgd, hr' ι' H' vacc st' mo' nD eD ra⟩
      · rw [if_neg hgd] at hr'; exact hr'.elim
theorem de_lc {elt tg iter : Expr} {ifs : List Expr} {scope : Scope} {own : List (Str × Nat)} {pos : Pos} {s : Em (List Wd × Gd)} {t : Tg} {g : TG} {c : Em Bool} {f : Em Wd} (hc : X.calm = true) (hN : X.N.Nodup) (hi : PI X tg iter (tI X.K W s)) (ok : BlkOk X.N X.env.scope scope own)
    (hg : ∀ (s : Shared) (H : Hp) (C : Addr) (cl : List (Str × Addr)) (fp : List Addr), PG (X.blk s H scope (compEnvC scope cl C X.env) fp) tg g) (hk : GtOk X.K t g) (hsub : (t.slots.all fun i => (own.map (·.2)).contains i) = true) (ht : ∀ (s : Shared) (H : Hp) (C : Addr) (cl : List (Str × Addr)) (fp : List Addr), PTs (X.blk s H scope (compEnvC scope cl C X.env) fp) ifs (tT X.K W0 c))
    (he : ∀ (s : Shared) (H : Hp) (C : Addr) (cl : List (Str × Addr)) (fp : List Addr), PE (X.blk s H scope (compEnvC scope cl C X.env) fp) elt (tE X.K W0 f)) (hs : ∀ x, foldedSetIterable iter X.env x = pure x := by intro _; rfl) :
    PE X (.ListComp elt [⟨tg, iter, ifs, 0⟩] scope pos) (tE X.K W (eLc s t c f (own.map (·.2)))) :=
  PEimp (pe_lc hc hN hi ok hg ht he hs) fun σ H Q h => post_lc hk (fun i hi => by simpa using List.all_eq_true.mp hsub i hi) h
theorem ds_setLc {i : Nat} {y : Str} {py : Pos} {elt tg iter : Expr} {ifs : List Expr} {scope : Scope} {own : List (Str × Nat)} {pos spos : Pos} {s : Em (List Wd × Gd)} {t : Tg} {g : TG} {c : Em Bool} {f : Em Wd} (hc : X.calm = true) (hN : X.N.Nodup) (hy : X.N[i]? = some y) (hyl : X.env.scope.names.lookup y = some .local)
    (hsw : swapsWith (.ListComp elt [⟨tg, iter, ifs, 0⟩] scope pos) (some (.Name y py)) spos.line X.env = pure true) (hi : PI X tg iter (tI X.K W s)) (ok : BlkOk X.N X.env.scope scope own)
    (hg : ∀ (s : Shared) (H : Hp) (C : Addr) (cl : List (Str × Addr)) (fp : List Addr), PG (X.blk s H scope (compEnvC scope cl C X.env) fp) tg g) (hk : GtOk X.K t g) (hsub : (t.slots.all fun i => (own.map (·.2)).contains i) = true) (ht : ∀ (s : Shared) (H : Hp) (C : Addr) (cl : List (Str × Addr)) (fp : List Addr), PTs (X.blk s H scope (compEnvC scope cl C X.env) fp) ifs (tT X.K W0 c))
    (he : ∀ (s : Shared) (H : Hp) (C : Addr) (cl : List (Str × Addr)) (fp : List Addr), PE (X.blk s H scope (compEnvC scope cl C X.env) fp) elt (tE X.K W0 f)) (hs : ∀ x, foldedSetIterable iter X.env x = pure x := by intro _; rfl) :
    PS X (.Assign [.Name y py] (.ListComp elt [⟨tg, iter, ifs, 0⟩] scope pos) spos) (tS X.K W (sSet i (eLc s t c f (own.map (·.2))))) :=
  PSimp (ps_setLc hc hN hy hyl hsw hi ok hg ht he hs) fun D σ H ⟨ι, env, m, eo, mo, p⟩ =>
    post_lc (Q := fun x H1 => gName i x σ H1 D.nx) hk (fun i hi => by simpa using List.all_eq_true.mp hsub i hi) (PostS.bind eo mo p fun ι1 H1 a x m1 st1 mo1 eo1 ra p1 => p1 ι1 H1 _ .refl mo1 (eo1.set ra))
theorem dts_nil {X : Cx} : PTs X [] (tT X.K W (fun _ m => .ok true m)) := ⟨fun pins s σ H Q I h => pts_nil.run pins s σ H Q I (let ⟨ι, env, m, eo, mo, p⟩ := h; post_ok p mo rfl)⟩
theorem dts_one {X : Cx} {c : Expr} {f : Em Bool} (h : PT X c (tT X.K W f)) : PTs X [c] (tT X.K W f) := pts_one h
/-! ### a def -/
theorem exOk_take {b : Nat} {x : Ex} {cls : Value} {d : Option Addr} (h : ExOk K ι H x cls d) (e : Wd.ltAll b (x.fs.map (·.2)) = true) : ExOk K (ι.take b) H x cls d := by
  obtain ⟨C, h1, h2, h3⟩ := h
  refine ⟨C, h1, h2, ?_⟩
  rcases h3 with h3 | ⟨dd, gs, q1, q2, q3⟩
  · exact .inl h3
  · exact .inr ⟨dd, gs, q1, q2, q3.takeI e⟩
theorem start_ok {n : Nat} {ws : List Wd} {N : List Str} {vs : List V} (r : RelWs K ι H ws vs) (hn : N.length = n) : EnvOk K ι H (startE n ws) (L2.start N vs) := by
  refine ⟨by simp [startE, L2.start, r.length, hn], fun i w e => ?_⟩
  have e' : (ws.map some ++ List.replicate (n - ws.length) none)[i]? = some (some w) := e
  by_cases hi : i < ws.length
  · rw [List.getElem?_append_left (by rw [List.length_map]; exact hi), List.getElem?_map] at e'
    cases q : ws[i]? with
    | none => rw [q] at e'; cases e'
    | some w' =>
      rw [q] at e'
      have : w' = w := by simpa using e'
      subst this
      obtain ⟨v, q1, q2⟩ := r.get q
      refine ⟨v, ?_, q2⟩
      show (vs.map some ++ List.replicate (N.length - vs.length) none)[i]? = _
      rw [List.getElem?_append_left (by rw [List.length_map]; exact get_of q1), List.getElem?_map, q1]
      rfl
  · rw [List.getElem?_append_right (by rw [List.length_map]; omega)] at e'
    rw [List.getElem?_replicate] at e'
    split at e' <;> cases e'
theorem fn_start {n k : Nat} {b : Sm} {N : List Str} {vs : List V} {H : Hp} {Q : VK} {E : XK} (hn : N.length = n) (h : spD K k (runF n b) vs H Q E) : tS K (fun cls d _ H => E cls d H) b { nx := fun _ H' => Q .non H', rt := Q } (L2.start N vs) H := by
  obtain ⟨ι, m, ws, hl, mo, r, p⟩ := h
  refine ⟨ι, startE n ws, m.openS, start_ok r hn, mo.openS, ?_⟩
  unfold runF at p
  have hb : ι.length ≤ m.cells.length := Nat.le_of_eq mo.len
  cases q : b (startE n ws) m.openS with
  | stuck => rw [q] at p; exact p
  | exc x e m1 =>
    rw [q] at p
    intro ι1 H1 σ1 cls d st mo1 eo1 xo
    obtain ⟨ι2, s2, m2, z⟩ := closeS_step (n0 := m.cells.length) (held := Wd.ltAll m.cells.length (x.fs.map (·.2))) mo1 st hb
    refine p ι2 H1 cls d s2 m2 ?_
    rcases z with z | ⟨z1, z2⟩
    · rw [z]; exact xo
    · rw [z2]; exact exOk_take xo z1
  | go fl e m1 =>
    rw [q] at p
    cases fl with
    | nx =>
      intro ι1 H1 σ1 st mo1 eo1
      obtain ⟨ι2, s2, m2, z⟩ := closeS_step (n0 := m.cells.length) (held := true) mo1 st hb
      exact p ι2 H1 .non s2 m2 (.d .non)
    | rt w =>
      intro ι1 H1 v st mo1 rw'
      obtain ⟨ι2, s2, m2, z⟩ := closeS_step (n0 := m.cells.length) (held := w.lt m.cells.length) mo1 st hb
      refine p ι2 H1 v s2 m2 ?_
      rcases z with z | ⟨z1, z2⟩
      · rw [z]; exact rw'
      · rw [z2]; exact rw'.take z1
    | bk => exact p.elim
    | ct => exact p.elim
/-- less is promised -/
theorem spD_imp {n : Nat} {F G : Fn} (h : ∀ ws m, ws.length = n → G ws m = .stuck ∨ F ws m = G ws m) {vs : List V} {H : Hp} {Q : VK} {E : XK} (p : spD K n G vs H Q E) : spD K n F vs H Q E := by
  obtain ⟨ι, m, ws, hl, mo, r, p⟩ := p
  refine ⟨ι, m, ws, hl, mo, r, ?_⟩
  rcases h ws m (r.length.trans hl) with z | z
  · rw [z] at p; exact p.elim
  · rw [z]; exact p
end
end DL
set_option Elab.async false
set_option linter.all false
set_option maxRecDepth 100000
set_option maxHeartbeats 2000000
namespace DL
open PySem PySem.Spec PyProof.Rows L2

/-! ### operators -/
def intO (C : Int → Int → Bool) (g : Int → Int → PyData) : Op2 := fun a b m => match a, b with
  | .d (.int i), .d (.int j) => if C i j = true then some (.d (g i j), m) else none
  | _, _ => none
def small64 (i : Int) : Bool := decide (-(2 ^ 64) < i ∧ i < 2 ^ 64)
/-- the pair of two that are lists in cells -/
def twoL (a b : Wd) (m : Mm) : Option (List Wd × List Wd) := match a, b with
  | .ref n, .ref k => match m.cells[n]?, m.cells[k]? with
    | some (.lst xs), some (.lst ys) => some (xs, ys)
    | _, _ => none
  | _, _ => none
def addO : Op2 := fun a b m => match a, b with
  | .d (.int i), .d (.int j) => some (.d (.int (i + j)), m)
  | .d (.str x), .d (.str y) => if x.length + y.length ≤ LIM then some (.d (.str (x ++ y)), m) else none
  | .ref n, .ref k => match m.cells[n]?, m.cells[k]? with
    | some (.lst xs), some (.lst ys) => if xs.length + ys.length ≤ LIM then some (.ref m.cells.length, m.push (.lst (xs ++ ys))) else none
    | _, _ => none
  | a, b => match tupOf a, tupOf b with
    | some xs, some ys => if xs.length + ys.length ≤ LIM then some (mkTup (xs ++ ys), m) else none
    | _, _ => none
def mulO : Op2 := fun a b m => match a, b with
  | .d (.int i), .d (.int j) => if (small64 i || small64 j) = true then some (.d (.int (i * j)), m) else none
  | .ref n, .d (.int k) => match m.cells[n]? with
    | some (.lst xs) => if (-(2 ^ 63) ≤ k ∧ k < 2 ^ 63) ∧ xs.length * k.toNat ≤ LIM then some (.ref m.cells.length, m.push (.lst (List.replicate k.toNat xs).flatten)) else none
    | _ => none
  | _, _ => none
def subO : Op2 := intO (fun _ _ => true) fun i j => .int (i - j)
def fdivO : Op2 := intO (fun _ j => decide (0 < j ∧ j < 1073741824)) fun i j => .int (i / j)
def modO : Op2 := intO (fun _ j => decide (0 < j)) fun i j => .int (i % j)
def powO : Op2 := intO (fun i j => decide (0 ≤ j ∧ j ≤ 1000000 ∧ i.natAbs < 2 ^ 64)) fun i j => .int (i ^ j.toNat)
def andO : Op2 := intO (fun _ _ => true) fun i j => .int (Builtin.bitAnd i j)
def shrO : Op2 := intO (fun _ j => decide (0 ≤ j)) fun i j => .int (i / 2 ^ j.toNat)
def ltO : Op2 := intO (fun _ _ => true) fun i j => .bool (decide (i < j))
def leO : Op2 := intO (fun _ _ => true) fun i j => .bool (decide (i ≤ j))
def gtO : Op2 := intO (fun _ _ => true) fun i j => .bool (decide (j < i))
def geO : Op2 := intO (fun _ _ => true) fun i j => .bool (decide (j ≤ i))
def negO : Op1 := fun a m => match a with
  | .d (.int i) => some (.d (.int (-i)), m)
  | _ => none

section
variable {K : PySem.W.Frag} {W : L2.WX} {ι : List Addr} {H : Hp} {σ : L2.St} {m : Mm} {X : Cx}
theorem stp_list {q : Addr} {o : HO} (hq : H q = none) : Stp ι H (ι ++ [q]) (upd H q o) := stp_new hq
theorem intO_ok {f : Value → Value → Sem Value} {C' : Int → Int → Prop} {C : Int → Int → Bool} {g : Int → Int → PyData} {g' : Int → Int → V} (h : OpR X f (rI C' g')) (hC : ∀ i j, C i j = true → C' i j) (hg : ∀ i j H, RelD X.K H (g i j) (g' i j)) : OpR X f (rO X.K (intO C g)) :=
  OpRimp h fun x y H Q ⟨ι, m, a, b, mo, ra, rb, p⟩ => by
    unfold intO at p
    split at p
    · rename_i i j
      by_cases hc : C i j = true
      · rw [if_pos hc] at p
        exact ⟨i, j, relW_int ra, relW_int rb, hC i j hc, post_ok p mo (.d (hg i j H))⟩
      · rw [if_neg hc] at p; exact p.elim
    · exact p.elim
theorem intO_ok0 {f : Value → Value → Sem Value} {g : Int → Int → PyData} {g' : Int → Int → V} (h : OpR X f (rI0 g')) (hg : ∀ i j H, RelD X.K H (g i j) (g' i j)) : OpR X f (rO X.K (intO (fun _ _ => true) g)) :=
  OpRimp h fun x y H Q ⟨ι, m, a, b, mo, ra, rb, p⟩ => by
    unfold intO at p
    split at p
    · rename_i i j
      rw [if_pos rfl] at p
      exact ⟨i, j, relW_int ra, relW_int rb, post_ok p mo (.d (hg i j H))⟩
    · exact p.elim
theorem o_sub : OpR X (binaryOp .Sub) (rO X.K subO) := intO_ok0 op_sub fun _ _ _ => .int _
theorem o_fdiv : OpR X (binaryOp .FloorDiv) (rO X.K fdivO) := intO_ok op_fdiv (fun _ j h => show 0 < j ∧ j < 1073741824 from of_decide_eq_true h) fun _ _ _ => .int _
theorem o_mod : OpR X (binaryOp .Mod) (rO X.K modO) := intO_ok op_mod (fun _ _ h => of_decide_eq_true h) fun _ _ _ => .int _
theorem o_pow : OpR X (binaryOp .Pow) (rO X.K powO) := intO_ok op_pow (fun i j h => show 0 ≤ j ∧ j ≤ 1000000 ∧ i.natAbs < 2 ^ 64 from of_decide_eq_true h) fun _ _ _ => .int _
theorem o_and : OpR X (binaryOp .BitAnd) (rO X.K andO) := intO_ok0 op_and fun _ _ _ => .int _
theorem o_shr : OpR X (binaryOp .RShift) (rO X.K shrO) := intO_ok op_shr (fun _ _ h => of_decide_eq_true h) fun _ _ _ => .int _
theorem o_lt : OpR X (compareOp .Lt) (rO X.K ltO) := intO_ok0 op_lt fun _ _ _ => .bl _
theorem o_le : OpR X (compareOp .LtE) (rO X.K leO) := intO_ok0 op_le fun _ _ _ => .bl _
theorem o_gt : OpR X (compareOp .Gt) (rO X.K gtO) := intO_ok0 op_gt fun _ _ _ => .bl _
theorem o_ge : OpR X (compareOp .GtE) (rO X.K geO) := intO_ok0 op_ge fun _ _ _ => .bl _
theorem o_neg : UnR X (unaryOp .USub) (rO1 X.K negO) := fun pins s σ H x v Q I rx h => by
  obtain ⟨ι, m, a, mo, ra, p⟩ := h
  unfold negO at p
  split at p
  · rename_i i
    exact un_neg pins s σ H x v Q I rx ⟨i, relW_int ra, post_ok p mo (.d (.int _))⟩
  · exact p.elim
/-- () + t is t -/
theorem op_catT0 : OpR X (binaryOp .Add) (fun x y H Q => ∃ a b ys, x = .ref a ∧ y = .ref b ∧ SqT X.K H a [] ∧ SqT X.K H b ys ∧ Q (.ref b) H) := by
  intro pins s σ H x y v u Q I rx ry h
  obtain ⟨a, b, ys, rfl, rfl, ha, hb, q⟩ := h
  cases rx
  cases ry
  obtain ⟨its, r1, p1, _⟩ := I.tuple ha
  obtain ⟨its2, r2, p2, _⟩ := I.tuple hb
  cases r1
  obtain ⟨⟨cls, dd, data, sl⟩, ho, hc, n, hd⟩ := id p1
  obtain ⟨⟨cls2, dd2, data2, sl2⟩, ho2, hc2, n2, hd2⟩ := id p2
  simp only at hc hd hc2 hd2
  subst hc hd hc2 hd2
  exact concat_meets ⟨_, ho, rfl⟩ ⟨_, ho2, rfl⟩ noFill_tuple_add seq_tuple_add PySem.F.slot_tuple_add PySem.F.entry_tuple_add (PySem.F.args_tuple_add_2 _ _)
    (tuple_addW0 a b ([] : List Value).toArray its2.toArray n n2 dd dd2 sl sl2 (by simp)) ⟨ho, ho2, ⟨.ref b, H, I, rfl, q⟩⟩
theorem o_add : OpR X (binaryOp .Add) (rO X.K addO) := by
  refine OpRimp (OpR.or op_add (OpR.or op_add_str (OpR.or op_cat (OpR.or op_catT op_catT0)))) fun x y H Q ⟨ι, m, a, b, mo, ra, rb, p⟩ => ?_
  unfold addO at p
  split at p
  · rename_i i j
    exact .inl ⟨i, j, relW_int ra, relW_int rb, post_ok p mo (.d (.int _))⟩
  · rename_i x' y'
    split at p
    · exact .inr (.inl ⟨x', y', relW_str ra, relW_str rb, by rw [← LIM_eq]; assumption, post_ok p mo (.d (.str _))⟩)
    · exact p.elim
  · rename_i n k
    split at p
    · rename_i xs ys h1 h2
      split at p
      · rename_i hl
        obtain ⟨a1, rfl, e1⟩ := relW_ref ra
        obtain ⟨b1, rfl, e2⟩ := relW_ref rb
        obtain ⟨vs, q1, r1⟩ := mo.cell _ _ _ e1 h1
        obtain ⟨us, q2, r2⟩ := mo.cell _ _ _ e2 h2
        refine .inr (.inr (.inl ⟨a1, b1, vs, us, rfl, rfl, q1, q2, by rw [← r1.length, ← r2.length, ← LIM_eq]; exact hl, fun q hq => ?_⟩))
        obtain ⟨c1, c2⟩ := cell_new mo hq (r1.append r2)
        exact p _ _ _ (stp_new hq) c1 c2
      · exact p.elim
    · exact p.elim
  · split at p
    · rename_i xs ys h1 h2
      split at p
      · rename_i hl
        obtain ⟨a1, vs, rfl, q1, r1⟩ := tupOf_ok h1 ra
        obtain ⟨b1, us, rfl, q2, r2⟩ := tupOf_ok h2 rb
        by_cases hv : vs = []
        · subst hv
          cases r1
          refine .inr (.inr (.inr (.inr ⟨a1, b1, us, rfl, rfl, q1, q2, post_ok p mo (mkTup_ok q2 r2)⟩)))
        · refine .inr (.inr (.inr (.inl ⟨a1, b1, vs, us, rfl, rfl, q1, q2, hv, by rw [← r1.length, ← r2.length, ← LIM_eq]; exact hl, fun e => ?_, fun e q hq => ?_⟩)))
          · subst e
            cases r2
            rw [List.append_nil] at p
            exact post_ok p mo (mkTup_ok q1 r1)
          · exact p ι _ _ (stp_tup hq) (mo.tup hq) (mkTup_ok (SqT.of upd_same) ((r1.append r2).step mo.apart (stp_tup hq)))
      · exact p.elim
    · exact p.elim
theorem o_mul : OpR X (binaryOp .Mult) (rO X.K mulO) := by
  refine OpRimp (OpR.or op_mul op_rep) fun x y H Q ⟨ι, m, a, b, mo, ra, rb, p⟩ => ?_
  unfold mulO at p
  split at p
  · rename_i i j
    split at p
    · rename_i hc
      refine .inl ⟨i, j, relW_int ra, relW_int rb, ?_, post_ok p mo (.d (.int _))⟩
      rw [Bool.or_eq_true] at hc
      exact hc.elim (fun h => .inl (of_decide_eq_true h)) (fun h => .inr (of_decide_eq_true h))
    · exact p.elim
  · rename_i n k
    split at p
    · rename_i xs h1
      split at p
      · rename_i hl
        obtain ⟨a1, rfl, e1⟩ := relW_ref ra
        obtain ⟨vs, q1, r1⟩ := mo.cell _ _ _ e1 h1
        refine .inr ⟨a1, k, vs, rfl, relW_int rb, q1, hl.1.1, hl.1.2, by rw [← r1.length, ← LIM_eq]; exact hl.2, fun q hq => ?_⟩
        have rr : ∀ j : Nat, RelWs X.K ι H (List.replicate j xs).flatten (List.replicate j vs).flatten := by
          intro j
          induction j with
          | zero => exact .nil
          | succ j ih => simp only [List.replicate_succ, List.flatten_cons]; exact r1.append ih
        obtain ⟨c1, c2⟩ := cell_new mo hq (rr k.toNat)
        exact p _ _ _ (stp_new hq) c1 c2
      · exact p.elim
    · exact p.elim
  · exact p.elim

/-! ### == -/
def seqO {α : Type} : List (Option α) → Option (List α)
  | [] => some []
  | some x :: r => (seqO r).map (x :: ·)
  | none :: _ => none
def toP (m : Mm) : Nat → Wd → Option PyData
  | _, .d x => some x
  | k + 1, .ref n => match m.cells[n]? with
    | some (.lst xs) => (seqO (xs.map (toP m k))).map .list
    | _ => none
  | k + 1, .tup xs => (seqO (xs.map (toP m k))).map .tuple
  | k + 1, .rol xs => (seqO (xs.map (toP m k))).map .list
  | _, _ => none
theorem dp_of : ∀ {d : PyData} {v : V}, RelD K H d v → Dp K H v d := by
  intro d v h
  exact RelD.rec (motive_1 := fun d v _ => Dp K H v d) (motive_2 := fun ds vs _ => DpAll K H vs ds) .non (fun b => .bl b) (fun i => .int i) (fun x => .str x) (fun h _ ih => .tup h ih) .nil (fun _ _ h1 h2 => .cons h1 h2) h
theorem toP_ok (mo : MemOk K ι m H) : ∀ (k : Nat) {w : Wd} {v : V} {d : PyData}, RelW K ι H w v → toP m k w = some d → Dp K H v d := by
  intro k
  induction k with
  | zero =>
    intro w v d r e
    cases r with
    | d r => cases e; exact dp_of r
    | _ => cases e
  | succ k ih =>
    have all : ∀ {ws : List Wd} {vs : List V} {ds : List PyData}, RelWs K ι H ws vs → seqO (ws.map (toP m k)) = some ds → DpAll K H vs ds := by
      intro ws
      induction ws with
      | nil => intro vs ds r e; cases r; cases e; exact .nil
      | cons w ws ihw =>
        intro vs ds r e
        cases r with
        | cons ra rr =>
          rw [List.map_cons] at e
          cases q : toP m k w with
          | none => rw [q] at e; cases e
          | some d =>
            rw [q] at e
            have e' : (seqO (ws.map (toP m k))).map (d :: ·) = some ds := e
            obtain ⟨es, q1, q2⟩ := Option.map_eq_some_iff.mp e'
            subst q2
            exact .cons (ih ra q) (ihw rr q1)
    intro w v d r e
    cases r with
    | d r => cases e; exact dp_of r
    | ref h =>
      rename_i n a
      have e' : (match m.cells[n]? with
        | some (.lst xs) => (seqO (xs.map (toP m k))).map .list
        | _ => none) = some d := e
      split at e'
      · rename_i xs hc
        obtain ⟨es, q1, q2⟩ := Option.map_eq_some_iff.mp e'
        subst q2
        obtain ⟨vs, q3, r3⟩ := mo.cell _ _ _ h hc
        exact .lst (SqL.of q3) (all r3 q1)
      · cases e'
    | tup h hs =>
      obtain ⟨es, q1, q2⟩ := Option.map_eq_some_iff.mp (show (seqO (_)).map PyData.tuple = some d from e)
      subst q2
      exact .tup h (all hs q1)
    | rol h hs =>
      obtain ⟨es, q1, q2⟩ := Option.map_eq_some_iff.mp (show (seqO (_)).map PyData.list = some d from e)
      subst q2
      exact .lst h.sqL (all hs q1)
    | v x => cases e
/-- values without depth, whose texts need no look -/
def scalD : PyData → PyData → Bool
  | .none, .none => true | .none, .int _ => true | .int _, .none => true | .none, .bool _ => true | .bool _, .none => true | .none, .str _ => true | .str _, .none => true
  | .int _, .int _ => true | .bool _, .bool _ => true | .str _, .str _ => true
  | .int _, .str _ => true | .str _, .int _ => true | .bool _, .str _ => true | .str _, .bool _ => true
  | _, _ => false
def eqB (a b : Wd) (m : Mm) : Option Bool := match toP m 64 a, toP m 64 b with
  | some x, some y => if (scalD x y || (SeqAt.shaped x && SeqAt.shaped y)) = true then some (PyData.eqv x y) else none
  | _, _ => none
def eqO : Op2 := fun a b m => match eqB a b m with
  | some k => some (.d (.bool k), m)
  | none => none
def neO : Op2 := fun a b m => match eqB a b m with
  | some k => some (.d (.bool (!k)), m)
  | none => none
theorem scal_of {x y : PyData} {v u : V} (h : scalD x y = true) (r1 : RelD K H x v) (r2 : RelD K H y u) : scal v u = true ∧ decide (v = u) = PyData.eqv x y := by
  cases r1 <;> cases r2 <;> first | (cases h; done) | (refine ⟨rfl, ?_⟩; simp [PyData.eqv]; done) | (refine ⟨rfl, ?_⟩; simp [PyData.eqv]; rw [Bool.eq_iff_iff]; simp)
theorem toP_scal {x y : PyData} {w : Wd} {k : Nat} (h : scalD x y = true ∨ scalD y x = true) (e : toP m k w = some x) : w = .d x := by
  cases w with
  | d z => cases k <;> (cases e; rfl)
  | ref n =>
    exfalso
    cases k with
    | zero => cases e
    | succ k =>
      have e' : (match m.cells[n]? with
        | some (.lst xs) => (seqO (xs.map (toP m k))).map .list
        | _ => none) = some x := e
      split at e'
      · obtain ⟨es, q1, q2⟩ := Option.map_eq_some_iff.mp e'
        subst q2
        rcases h with h | h <;> cases y <;> cases h
      · cases e'
  | tup xs =>
    exfalso
    cases k with
    | zero => cases e
    | succ k =>
      obtain ⟨es, q1, q2⟩ := Option.map_eq_some_iff.mp (show (seqO (_)).map PyData.tuple = some x from e)
      subst q2
      rcases h with h | h <;> cases y <;> cases h
  | rol xs =>
    exfalso
    cases k with
    | zero => cases e
    | succ k =>
      obtain ⟨es, q1, q2⟩ := Option.map_eq_some_iff.mp (show (seqO (_)).map PyData.list = some x from e)
      subst q2
      rcases h with h | h <;> cases y <;> cases h
  | v z => exfalso; cases k <;> cases e
theorem o_eq (hu : X.A.units + 64 < cLine) : OpR X (compareOp .Eq) (rO X.K eqO) := by
  refine OpRimp (OpR.or op_eq (op_eqD hu)) fun x y H Q ⟨ι, m, a, b, mo, ra, rb, p⟩ => ?_
  unfold eqO eqB at p
  cases q1 : toP m 64 a with
  | none => rw [q1] at p; exact p.elim
  | some d =>
    cases q2 : toP m 64 b with
    | none => rw [q1, q2] at p; exact p.elim
    | some e =>
      rw [q1, q2] at p
      simp only [] at p
      by_cases hs : scalD d e = true
      · rw [if_pos (by rw [hs]; rfl)] at p
        have ea := toP_scal (.inl hs) q1
        have eb := toP_scal (.inr hs) q2
        subst ea; subst eb
        obtain ⟨h1, h2⟩ := scal_of hs ra.d' rb.d'
        exact .inl ⟨h1, by rw [h2]; exact post_ok p mo (.d (.bl _))⟩
      · by_cases h : (scalD d e || (SeqAt.shaped d && SeqAt.shaped e)) = true
        · rw [if_pos h] at p
          rw [Bool.or_eq_true, Bool.and_eq_true] at h
          rcases h with h | ⟨h1, h2⟩
          · exact absurd h hs
          · exact .inr ⟨d, e, toP_ok mo 64 ra q1, toP_ok mo 64 rb q2, h1, h2, post_ok p mo (.d (.bl _))⟩
        · rw [if_neg h] at p; exact p.elim
theorem o_ne (hu : X.A.units + 64 < cLine) : OpR X (compareOp .NotEq) (rO X.K neO) := by
  refine OpRimp (OpR.or op_ne (op_neD hu)) fun x y H Q ⟨ι, m, a, b, mo, ra, rb, p⟩ => ?_
  unfold neO eqB at p
  cases q1 : toP m 64 a with
  | none => rw [q1] at p; exact p.elim
  | some d =>
    cases q2 : toP m 64 b with
    | none => rw [q1, q2] at p; exact p.elim
    | some e =>
      rw [q1, q2] at p
      simp only [] at p
      by_cases hs : scalD d e = true
      · rw [if_pos (by rw [hs]; rfl)] at p
        have ea := toP_scal (.inl hs) q1
        have eb := toP_scal (.inr hs) q2
        subst ea; subst eb
        obtain ⟨h1, h2⟩ := scal_of hs ra.d' rb.d'
        exact .inl ⟨h1, by rw [h2]; exact post_ok p mo (.d (.bl _))⟩
      · by_cases h : (scalD d e || (SeqAt.shaped d && SeqAt.shaped e)) = true
        · rw [if_pos h] at p
          rw [Bool.or_eq_true, Bool.and_eq_true] at h
          rcases h with h | ⟨h1, h2⟩
          · exact absurd h hs
          · exact .inr ⟨d, e, toP_ok mo 64 ra q1, toP_ok mo 64 rb q2, h1, h2, post_ok p mo (.d (.bl _))⟩
        · rw [if_neg h] at p; exact p.elim
end
end DL
set_option Elab.async false
set_option linter.all false
set_option maxRecDepth 100000
set_option maxHeartbeats 2000000
namespace DL
open PySem PySem.Spec PyProof.Rows L2

/-! ### sequences -/
/-- the items of a list or tuple -/
def seqOf (m : Mm) : Wd → Option (List Wd)
  | .d (.tuple ds) => some (ds.map .d)
  | .tup ws => some ws
  | .rol ws => some ws
  | .ref n => match m.cells[n]? with
    | some (.lst xs) => some xs
    | _ => none
  | _ => none
def lenO : OpN := fun ws m => match ws with
  | [.d (.str x)] => if x.length ≤ LIM then some (.d (.int x.length), m) else none
  | [.ref n] => match m.cells[n]? with
    | some (.lst xs) => some (.d (.int xs.length), m)
    | some (.dct kvs) => some (.d (.int kvs.length), m)
    | _ => none
  | [w] => match seqOf m w with
    | some xs => some (.d (.int xs.length), m)
    | none => none
  | _ => none
def flatD : PyData → Bool
  | .none => true | .bool _ => true | .int _ => true | .str _ => true
  | _ => false
def flatW : Wd → Bool
  | .d x => flatD x
  | _ => false
def eqvW : Wd → Wd → Bool
  | .d x, .d y => PyData.eqv x y
  | _, _ => false
/-- x in y -/
def inB (x y : Wd) (m : Mm) : Option Bool := match x, y with
  | .d (.str a), .d (.str z) => match a.cps.toList with
    | [c] => some (decide (c ∈ z.cps.toList))
    | _ => none
  | _, _ => match seqOf m y with
    | some ys => if (flatW x && ys.all flatW) = true then some (ys.any fun z => eqvW z x) else none
    | none => none
def inO : Op2 := fun x y m => match inB x y m with
  | some b => some (.d (.bool b), m)
  | none => none
def niO : Op2 := fun x y m => match inB x y m with
  | some b => some (.d (.bool (!b)), m)
  | none => none
def isNoneW : Wd → Option Bool
  | .d .none => some true
  | .d _ => some false
  | .ref _ => some false
  | .tup _ => some false
  | .rol _ => some false
  | .v _ => none
def isNO : Op2 := fun x y m => match y with
  | .d .none => match isNoneW x with
    | some b => some (.d (.bool b), m)
    | none => none
  | _ => none
def nnO : Op2 := fun x y m => match y with
  | .d .none => match isNoneW x with
    | some b => some (.d (.bool (!b)), m)
    | none => none
  | _ => none
/-- an item -/
def ixO : Op2 := fun x y m => match x, y with
  | .d (.str z), .d (.int i) => if z.length ≤ LIM then (match atI z.cps.toList i with
    | some c => some (.d (.str ⟨#[c]⟩), m)
    | none => none) else none
  | x, .d (.int i) => match seqOf m x with
    | some xs => match atI xs i with
      | some w => some (w, m)
      | none => none
    | none => none
  | _, _ => none
/-- a part -/
def cutW (xs : List Wd) (lo hi : Option Int) : List Wd := (xs.drop (HT.sIx xs.length 0 lo)).take (HT.sIx xs.length xs.length hi - HT.sIx xs.length 0 lo)
def slO (x : Wd) (lo hi : Option Int) (m : Mm) : Option (Wd × Mm) := match x with
  | .d (.str z) => if z.length ≤ LIM then some (.d (.str (cutS z lo hi)), m) else none
  | .ref n => match m.cells[n]? with
    | some (.lst xs) => some (.ref m.cells.length, m.push (.lst (cutW xs lo hi)))
    | _ => none
  | .rol xs => some (.ref m.cells.length, m.push (.lst (cutW xs lo hi)))
  | x => match tupOf x with
    | some xs => some (mkTup (cutW xs lo hi), m)
    | none => none
/-- a slice's bound -/
abbrev Eo := Em (Option Int)
def oNone : Eo := fun _ m => .ok none m
def oSome (f : Em Wd) : Eo := fun env m => (f env m).bind fun w m => match w with
  | .d (.int i) => .ok (some i) m
  | _ => .stuck
def eSl (f : Em Wd) (lo hi : Eo) : Em Wd := fun env m => (f env m).bind fun w m => (lo env m).bind fun l m => (hi env m).bind fun h m => Rs.of (slO w l h m)
/-- calls -/
def absO : OpN := fun ws m => match ws with
  | [.d (.int i)] => some (.d (.int (if i < 0 then -i else i)), m)
  | _ => none
def intO1 : OpN := fun ws m => match ws with
  | [.d (.int i)] => some (.d (.int i), m)
  | [.d (.bool b)] => some (.d (.int (if b then 1 else 0)), m)
  | _ => none
def listO : OpN := fun ws m => match ws with
  | [w] => match seqOf m w with
    | some xs => some (.ref m.cells.length, m.push (.lst xs))
    | none => none
  | _ => none
def tupleO : OpN := fun ws m => match ws with
  | [w] => match seqOf m w with
    | some xs => some (mkTup xs, m)
    | none => none
  | _ => none
def boolsW : List Wd → Option (List Bool)
  | [] => some []
  | .d (.bool b) :: r => (boolsW r).map (b :: ·)
  | _ :: _ => none
def allO : OpN := fun ws m => match ws with
  | [.ref n] => match m.cells[n]? with
    | some (.lst xs) => match boolsW xs with
      | some bs => some (.d (.bool (bs.all id)), m)
      | none => none
    | _ => none
  | _ => none
def anyO : OpN := fun ws m => match ws with
  | [.ref n] => match m.cells[n]? with
    | some (.lst xs) => match boolsW xs with
      | some bs => some (.d (.bool (bs.any id)), m)
      | none => none
    | _ => none
  | _ => none
/-- isinstance of built-in types -/
def tyName (m : Mm) : Wd → Option String
  | .d .none => some "NoneType" | .d (.bool _) => some "bool" | .d (.int _) => some "int" | .d (.str _) => some "str" | .d (.tuple _) => some "tuple"
  | .tup _ => some "tuple" | .rol _ => some "list"
  | .ref n => match m.cells[n]? with
    | some (.lst _) => some "list"
    | some (.dct _) => some "dict"
    | _ => none
  | _ => none
def isT (a T : String) : Bool := decide (a = T) || (decide (a = "bool") && decide (T = "int"))
def isiO (Ts : List String) (w : Wd) (m : Mm) : Option (Wd × Mm) := match tyName m w with
  | some a => some (.d (.bool (Ts.any (isT a))), m)
  | none => none
def eIsi (Ts : List String) (f : Em Wd) : Em Wd := e1 (isiO Ts) f
/-- methods of lists -/
def appO : Wd → List Wd → Mm → Option (Wd × Mm) := fun x ws m => match x, ws with
  | .ref n, [w] => match m.cells[n]? with
    | some (.lst xs) => if xs.length < LIM then some (.d .none, m.put n (.lst (xs ++ [w])) (w.lt 0)) else none
    | _ => none
  | _, _ => none
def extO : Wd → List Wd → Mm → Option (Wd × Mm) := fun x ws m => match x, ws with
  | .ref n, [.ref k] => match m.cells[n]?, m.cells[k]? with
    | some (.lst xs), some (.lst ys) => if xs.length + ys.length ≤ LIM then some (.d .none, m.put n (.lst (xs ++ ys)) (Wd.ltAll 0 ys)) else none
    | _, _ => none
  | _, _ => none
def popO : Wd → List Wd → Mm → Option (Wd × Mm) := fun x ws m => match x, ws with
  | .ref n, [.d (.int i)] => match m.cells[n]? with
    | some (.lst xs) => if -(2 ^ 63) ≤ i ∧ i < 2 ^ 63 then (match seqIndex? i xs.length with
      | some k => match xs[k]? with
        | some w => some (w, m.put n (.lst (xs.eraseIdx k)) true)
        | none => none
      | none => none) else none
    | _ => none
  | .ref n, [] => match m.cells[n]? with
    | some (.lst xs) => match xs[xs.length - 1]? with
      | some w => some (w, m.put n (.lst xs.dropLast) true)
      | none => none
    | _ => none
  | _, _ => none
def eM (g : Wd → List Wd → Mm → Option (Wd × Mm)) (f : Em Wd) (fa : Em (List Wd)) : Em Wd := fun env m => (f env m).bind fun w m => match w with
  | .ref n => match m.cells[n]? with
    | some (.lst _) => (fa env m).bind fun ws m => Rs.of (g w ws m)
    | _ => .stuck
  | _ => .stuck
/-- x[i] = v, x[i] op= v -/
def setO (x i v : Wd) (m : Mm) : Option Mm := match x, i with
  | .ref n, .d (.int k) => match m.cells[n]? with
    | some (.lst xs) => match ixN xs.length k with
      | some j => some (m.put n (.lst (xs.set j v)) (v.lt 0))
      | none => none
    | _ => none
  | _, _ => none
def sSub (fo fi fv : Em Wd) : Sm := fun env m => rs (fv env m) env fun v m => rs (fo env m) env fun o m => rs (fi env m) env fun i m => match setO o i v m with
  | some m => .go .nx env m
  | none => .stuck
def sAugS (g : Op2) (fo fi fv : Em Wd) : Sm := fun env m => rs (fo env m) env fun o m => rs (fi env m) env fun i m => rs (Rs.of (ixO o i m)) env fun x m => rs (fv env m) env fun y m => rs (Rs.of (g x y m)) env fun z m => match setO o i z m with
  | some m => .go .nx env m
  | none => .stuck
def sAug (i : Nat) (g : Op2) (f : Em Wd) : Sm := fun env m => match env[i]? with
  | some (some x) => rs (f env m) env fun y m => rs (Rs.of (g x y m)) env fun z m => .go .nx (env.set i (some z)) m
  | _ => .stuck

section
variable {K : PySem.W.Frag} {W : L2.WX} {ι : List Addr} {H : Hp} {σ : L2.St} {m : Mm} {X : Cx}
theorem seqOf_ok {w : Wd} {ws : List Wd} {v : V} (mo : MemOk K ι m H) (e : seqOf m w = some ws) (r : RelW K ι H w v) : ∃ a vs, v = .ref a ∧ (SqL K H a vs ∨ SqT K H a vs) ∧ RelWs K ι H ws vs := by
  cases r with
  | d h =>
    cases h with
    | tup h hs => cases e; exact ⟨_, _, rfl, .inr h, hs.ws⟩
    | _ => cases e
  | tup h hs => cases e; exact ⟨_, _, rfl, .inr h, hs⟩
  | rol h hs => cases e; exact ⟨_, _, rfl, .inl h.sqL, hs⟩
  | v _ => cases e
  | ref h =>
    simp only [seqOf] at e
    split at e
    · rename_i xs hc
      cases e
      obtain ⟨vs, q, r⟩ := mo.cell _ _ _ h hc
      exact ⟨_, vs, rfl, .inl (SqL.of q), r⟩
    · cases e
theorem vals_one {ws : List V} {w : Wd} (h : RelWs K ι H [w] ws) : ∃ v, ws = [v] ∧ RelW K ι H w v := by
  cases h with
  | cons h hs => cases hs; exact ⟨_, rfl, h⟩
theorem c_len : CallR X (.builtin "len") (rON X.K lenO) := by
  refine CallRimp (CallR.or call_len call_lenD) fun xs H Q ⟨ι, m, ws, mo, ra, p⟩ => ?_
  unfold lenO at p
  split at p
  · rename_i x
    split at p
    · rename_i hl
      obtain ⟨v, rfl, r⟩ := vals_one ra
      exact .inl ⟨_, x.length, rfl, by rw [relW_str r]; exact ⟨by rw [← LIM_eq]; exact hl, rfl⟩, post_ok p mo (.d (.int _))⟩
    · exact p.elim
  · rename_i n
    split at p
    · rename_i xs hc
      obtain ⟨v, rfl, r⟩ := vals_one ra
      obtain ⟨a, rfl, e⟩ := relW_ref r
      obtain ⟨vs, q, rv⟩ := mo.cell _ _ _ e hc
      exact .inl ⟨_, vs.length, rfl, .inl ⟨vs, SqL.of q, rfl⟩, by rw [← rv.length]; exact post_ok p mo (.d (.int _))⟩
    · rename_i kvs hc
      obtain ⟨v, rfl, r⟩ := vals_one ra
      obtain ⟨a, rfl, e⟩ := relW_ref r
      obtain ⟨ks, q, rv⟩ := mo.cell _ _ _ e hc
      have len : kvs.length = ks.length := by
        clear p hc q
        induction kvs generalizing ks with
        | nil => cases ks with
          | nil => rfl
          | cons _ _ => exact rv.elim
        | cons k kvs ih => cases ks with
          | nil => obtain ⟨_, _⟩ := k; exact rv.elim
          | cons _ ks => obtain ⟨_, _⟩ := k; exact congrArg (· + 1) (ih ks rv.2.2)
      exact .inr ⟨a, ks, rfl, q, by rw [← len]; exact post_ok p mo (.d (.int _))⟩
    · exact p.elim
  · rename_i w _ _
    split at p
    · rename_i xs e
      obtain ⟨v, rfl, r⟩ := vals_one ra
      obtain ⟨a, vs, rfl, h, rv⟩ := seqOf_ok mo e r
      refine .inl ⟨_, vs.length, rfl, ?_, by rw [← rv.length]; exact post_ok p mo (.d (.int _))⟩
      rcases h with h | h
      · exact .inl ⟨vs, h, rfl⟩
      · exact .inr ⟨vs, h, rfl⟩
    · exact p.elim
  · exact p.elim
theorem flatV_of {x : PyData} {v : V} (r : RelD K H x v) (h : flatD x = true) : flatV v = true := by
  cases r <;> first | rfl | cases h
theorem eqV_of {x y : PyData} {v u : V} (r : RelD K H x v) (r' : RelD K H y u) (h : flatD x = true) (h' : flatD y = true) : eqV v u = PyData.eqv x y := by
  cases r <;> cases r' <;> first | rfl | (cases h; done) | (cases h'; done)
theorem inV_of {x : PyData} {v : V} (r : RelD K H x v) (hx : flatD x = true) : ∀ {ys : List Wd} {vs : List V}, RelWs K ι H ys vs → ys.all flatW = true → vs.all flatV = true ∧ inV v vs = ys.any (fun z => eqvW z (.d x))
  | _, _, .nil, _ => ⟨rfl, rfl⟩
  | _, _, .cons (w := w) ra rr, h => by
    rw [List.all_cons, Bool.and_eq_true] at h
    obtain ⟨h1, h2⟩ := inV_of r hx rr h.2
    cases ra with
    | d rd =>
      refine ⟨by rw [List.all_cons, flatV_of rd h.1, h1]; rfl, ?_⟩
      show (eqV _ v || inV v _) = (eqvW _ _ || _)
      rw [h2, eqV_of rd r h.1 hx]; rfl
    | ref _ => cases h.1
    | tup _ _ => cases h.1
    | rol _ _ => cases h.1
    | v _ => cases h.1
theorem inB_ok {x y : Wd} {b : Bool} {v u : V} (mo : MemOk K ι m H) (rx : RelW K ι H x v) (ry : RelW K ι H y u) (h : inB x y m = some b) : (∃ (c : Nat) (z : Str), v = .str ⟨#[c]⟩ ∧ u = .str z ∧ b = decide (c ∈ z.cps.toList)) ∨
    ∃ p xs, u = .ref p ∧ (SqL K H p xs ∨ SqT K H p xs) ∧ flatV v = true ∧ xs.all flatV = true ∧ b = inV v xs := by
  unfold inB at h
  split at h
  · rename_i a z
    split at h
    · rename_i c e
      cases h
      refine .inl ⟨c, z, ?_, relW_str ry, rfl⟩
      rw [relW_str rx]
      congr 1
      cases a with
      | mk cps => rw [show cps = #[c] from by rw [← Array.toList_inj]; exact e]
    · cases h
  · split at h
    · rename_i ys e
      split at h
      · rename_i hf
        cases h
        rw [Bool.and_eq_true] at hf
        obtain ⟨a, vs, rfl, h1, rv⟩ := seqOf_ok mo e ry
        cases x with
        | d x =>
          obtain ⟨h2, h3⟩ := inV_of rx.d' hf.1 rv hf.2
          exact .inr ⟨a, vs, rfl, h1, flatV_of rx.d' hf.1, h2, h3.symm⟩
        | ref _ => cases hf.1
        | tup _ => cases hf.1
        | rol _ => cases hf.1
        | v _ => cases hf.1
      · cases h
    · cases h
theorem o_in : OpR X (compareOp .In) (rO X.K inO) := by
  refine OpRimp (OpR.or op_in_sign op_in_seq) fun x y H Q ⟨ι, m, a, b, mo, ra, rb, p⟩ => ?_
  unfold inO at p
  split at p
  · rename_i k hk
    rcases inB_ok mo ra rb hk with ⟨c, z, e1, e2, e3⟩ | ⟨q, xs, e1, h1, h2, h3, e2⟩
    · exact .inl ⟨c, z, e1, e2, by rw [← e3]; exact post_ok p mo (.d (.bl _))⟩
    · exact .inr ⟨q, xs, e1, h1, h2, h3, by rw [if_neg (by decide), ← e2]; exact post_ok p mo (.d (.bl _))⟩
  · exact p.elim
theorem o_ni : OpR X (compareOp .NotIn) (rO X.K niO) := by
  refine OpRimp (OpR.or op_notIn_sign op_notIn_seq) fun x y H Q ⟨ι, m, a, b, mo, ra, rb, p⟩ => ?_
  unfold niO at p
  split at p
  · rename_i k hk
    rcases inB_ok mo ra rb hk with ⟨c, z, e1, e2, e3⟩ | ⟨q, xs, e1, h1, h2, h3, e2⟩
    · exact .inl ⟨c, z, e1, e2, by rw [← e3]; exact post_ok p mo (.d (.bl _))⟩
    · exact .inr ⟨q, xs, e1, h1, h2, h3, by rw [if_pos rfl, ← e2]; exact post_ok p mo (.d (.bl _))⟩
  · exact p.elim
theorem isNone_ok {x : Wd} {v : V} {b : Bool} (r : RelW K ι H x v) (h : isNoneW x = some b) : decide (v = .non) = b := by
  cases r with
  | d r => cases r <;> (cases h; rfl)
  | ref _ => cases h; rfl
  | tup _ _ => cases h; rfl
  | rol _ _ => cases h; rfl
  | v _ => cases h
theorem o_isN : OpR X (compareOp .Is) (rO X.K isNO) := by
  refine OpRimp op_isN fun x y H Q ⟨ι, m, a, b, mo, ra, rb, p⟩ => ?_
  unfold isNO at p
  split at p
  · split at p
    · rename_i k hk
      exact ⟨relW_non rb, by rw [isNone_ok ra hk]; exact post_ok p mo (.d (.bl _))⟩
    · exact p.elim
  · exact p.elim
theorem o_nn : OpR X (compareOp .IsNot) (rO X.K nnO) := by
  refine OpRimp op_notN fun x y H Q ⟨ι, m, a, b, mo, ra, rb, p⟩ => ?_
  unfold nnO at p
  split at p
  · split at p
    · rename_i k hk
      exact ⟨relW_non rb, by rw [isNone_ok ra hk]; exact post_ok p mo (.d (.bl _))⟩
    · exact p.elim
  · exact p.elim
theorem atI_ok {xs : List Wd} {vs : List V} {i : Int} {w : Wd} (r : RelWs K ι H xs vs) (h : atI xs i = some w) : ∃ v, atI vs i = some v ∧ RelW K ι H w v := by
  unfold atI at h ⊢
  rw [← r.length]
  obtain ⟨j, h1, h2⟩ := Option.bind_eq_some_iff.mp h
  obtain ⟨v, q1, q2⟩ := r.get h2
  exact ⟨v, by rw [h1]; exact q1, q2⟩
theorem i_ix : IxR X (rO X.K ixO) := by
  refine IxRimp (IxR.or ix_str (IxR.or ix_list ix_tup)) fun x y H Q ⟨ι, m, a, b, mo, ra, rb, p⟩ => ?_
  unfold ixO at p
  split at p
  · rename_i z i
    split at p
    · rename_i hl
      split at p
      · rename_i c hc
        exact .inl ⟨z, i, c, relW_str ra, relW_int rb, by rw [← LIM_eq]; exact hl, hc, post_ok p mo (.d (.str _))⟩
      · exact p.elim
    · exact p.elim
  · rename_i i _
    split at p
    · rename_i xs e
      split at p
      · rename_i w hw
        obtain ⟨a1, vs, rfl, h, rv⟩ := seqOf_ok mo e ra
        obtain ⟨v, q1, q2⟩ := atI_ok rv hw
        rcases h with h | h
        · exact .inr (.inl ⟨a1, vs, i, v, rfl, relW_int rb, h, q1, post_ok p mo q2⟩)
        · exact .inr (.inr ⟨a1, vs, i, v, rfl, relW_int rb, h, q1, post_ok p mo q2⟩)
      · exact p.elim
    · exact p.elim
  · exact p.elim
theorem cut_ok {xs : List Wd} {vs : List V} (r : RelWs K ι H xs vs) (lo hi : Option Int) : RelWs K ι H (cutW xs lo hi) (cutV vs lo hi) := by
  unfold cutW cutV
  rw [r.length]
  exact (r.drop _).take _
theorem o_abs : CallR X (.builtin "abs") (rON X.K absO) := by
  refine CallRimp call_abs fun xs H Q ⟨ι, m, ws, mo, ra, p⟩ => ?_
  unfold absO at p
  split at p
  · rename_i i
    obtain ⟨v, rfl, r⟩ := vals_one ra
    exact ⟨i, by rw [relW_int r], post_ok p mo (.d (.int _))⟩
  · exact p.elim
theorem o_int1 : CallR X (.type "int") (rON X.K intO1) := by
  refine CallRimp call_int1 fun xs H Q ⟨ι, m, ws, mo, ra, p⟩ => ?_
  unfold intO1 at p
  split at p
  · rename_i i
    obtain ⟨v, rfl, r⟩ := vals_one ra
    exact .inl ⟨i, by rw [relW_int r], post_ok p mo (.d (.int _))⟩
  · rename_i b
    obtain ⟨v, rfl, r⟩ := vals_one ra
    exact .inr ⟨b, by rw [relW_bl r], post_ok p mo (.d (.int _))⟩
  · exact p.elim
theorem o_list : CallR X (.type "list") (rON X.K listO) := by
  refine CallRimp call_list_of fun xs H Q ⟨ι, m, ws, mo, ra, p⟩ => ?_
  unfold listO at p
  split at p
  · rename_i w
    split at p
    · rename_i ys e
      obtain ⟨v, rfl, r⟩ := vals_one ra
      obtain ⟨a1, vs, rfl, h, rv⟩ := seqOf_ok mo e r
      exact ⟨a1, vs, rfl, h, fun q hq => let ⟨a, b⟩ := cell_new mo hq rv; p _ _ _ (stp_new hq) a b⟩
    · exact p.elim
  · exact p.elim
theorem o_tuple : CallR X (.type "tuple") (rON X.K tupleO) := by
  refine CallRimp call_tuple_of fun xs H Q ⟨ι, m, ws, mo, ra, p⟩ => ?_
  unfold tupleO at p
  split at p
  · rename_i w
    split at p
    · rename_i ys e
      obtain ⟨v, rfl, r⟩ := vals_one ra
      obtain ⟨a1, vs, rfl, h, rv⟩ := seqOf_ok mo e r
      refine ⟨a1, vs, rfl, ?_⟩
      rcases h with h | h
      · exact .inl ⟨h, fun q hq => p ι _ _ (stp_tup hq) (mo.tup hq) (mkTup_ok (SqT.of upd_same) (rv.step mo.apart (stp_tup hq)))⟩
      · exact .inr ⟨h, post_ok p mo (mkTup_ok h rv)⟩
    · exact p.elim
  · exact p.elim
theorem bools_ok : ∀ {ws : List Wd} {vs : List V} {bs : List Bool}, RelWs K ι H ws vs → boolsW ws = some bs → vs = bs.map V.bl
  | [], _, _, .nil, h => by cases h; rfl
  | .d (.bool b) :: r, _, _, .cons ra rr, h => by
    obtain ⟨bs, h1, h2⟩ := Option.map_eq_some_iff.mp (show (boolsW r).map (b :: ·) = some _ from h)
    subst h2
    rw [relW_bl ra, bools_ok rr h1]; rfl
  | .d .none :: _, _, _, _, h => by cases h
  | .d (.int _) :: _, _, _, _, h => by cases h
  | .d (.str _) :: _, _, _, _, h => by cases h
  | .d (.list _) :: _, _, _, _, h => by cases h
  | .d (.tuple _) :: _, _, _, _, h => by cases h
  | .d (.dict _) :: _, _, _, _, h => by cases h
  | .ref _ :: _, _, _, _, h => by cases h
  | .tup _ :: _, _, _, _, h => by cases h
  | .rol _ :: _, _, _, _, h => by cases h
  | .v _ :: _, _, _, _, h => by cases h
theorem o_all (hc : X.calm = true) : CallR X (.builtin "all") (rON X.K allO) := by
  refine CallRimp (cr_all hc) fun xs H Q ⟨ι, m, ws, mo, ra, p⟩ => ?_
  unfold allO at p
  split at p
  · rename_i n
    split at p
    · rename_i ys hc
      split at p
      · rename_i bs hb
        obtain ⟨v, rfl, r⟩ := vals_one ra
        obtain ⟨a, rfl, e⟩ := relW_ref r
        obtain ⟨vs, q, rv⟩ := mo.cell _ _ _ e hc
        rw [bools_ok rv hb] at q
        exact ⟨a, bs, rfl, SqL.of q, post_ok p mo (.d (.bl _))⟩
      · exact p.elim
    · exact p.elim
  · exact p.elim
theorem o_any (hc : X.calm = true) : CallR X (.builtin "any") (rON X.K anyO) := by
  refine CallRimp (cr_any hc) fun xs H Q ⟨ι, m, ws, mo, ra, p⟩ => ?_
  unfold anyO at p
  split at p
  · rename_i n
    split at p
    · rename_i ys hc
      split at p
      · rename_i bs hb
        obtain ⟨v, rfl, r⟩ := vals_one ra
        obtain ⟨a, rfl, e⟩ := relW_ref r
        obtain ⟨vs, q, rv⟩ := mo.cell _ _ _ e hc
        rw [bools_ok rv hb] at q
        exact ⟨a, bs, rfl, SqL.of q, post_ok p mo (.d (.bl _))⟩
      · exact p.elim
    · exact p.elim
  · exact p.elim
end
end DL
set_option Elab.async false
set_option linter.all false
set_option maxRecDepth 100000
set_option maxHeartbeats 2000000
namespace DL
open PySem PySem.Spec PyProof.Rows L2
section
variable {K : PySem.W.Frag} {W : L2.WX} {ι : List Addr} {H : Hp} {σ : L2.St} {m : Mm} {X : Cx}
/-! ### parts -/
theorem cutV_all {xs : List V} {lo hi : Option Int} (h1 : HT.sIx xs.length 0 lo = 0) (h2 : HT.sIx xs.length xs.length hi = xs.length) : cutV xs lo hi = xs := by
  unfold cutV; rw [h1, h2]; simp
/-- the whole of a tuple is itself -/
theorem sl_tupW : SlR X (fun x lo hi H Q => ∃ a xs, x = .ref a ∧ SqT X.K H a xs ∧ (HT.sIx xs.length 0 lo = 0 ∧ HT.sIx xs.length xs.length hi = xs.length) ∧ Q (.ref a) H) := by
  intro pins s σ H x v vl vu lo hi sl Q I rx hs pl pu h
  obtain ⟨a, xs, rfl, hx, hw, q⟩ := h
  cases rx
  obtain ⟨its, r, ht, hz⟩ := I.tuple hx
  have hlen : its.toArray.size = xs.length := by rw [List.size_toArray]; exact r.length.symm
  refine ⟨"tuple", _, PyProof.Rows.slot_tuple_getitem.lookup, ht.typeIs, ?_⟩
  rw [← hlen] at hw
  obtain ⟨os, hos, hcs, hds⟩ := id hs
  have hTs : s.TypeIs (.ref sl) "slice" := ⟨os, hos, hcs⟩
  unfold getItem
  try with_reducible refine wpAny_holding ?_
  first | refine wpAny_bind (wpAny_pure ?_) | skip
  refine wpAny_bind (wpAny_sequenceKey ht.typeIs (by decide) ?_)
  refine wpAny_bind (wpAny_callSpecial?_slot (name := Str.ofString "__getitem__") ht.typeIs PyProof.Rows.slot_tuple_getitem
    (wpAny_call_entry PyProof.Rows.slot_tuple_getitem ht.typeIs entry_tuple_getitem ?_ (args_tuple_getitem _ _)))
  show wpAny _ _ (Builtin.Tuple.tupleItemsOf (.ref a) >>= _) _ _ s
  refine wpAny_bind (tupleItemsOf_ ht ?_)
  refine wpAny_bind (wpAny_typeOf hTs ?_)
  rw [if_pos (by decide)]
  refine wpAny_bind (HT.sliceApplied_gen hs pl pu ?_)
  have hyes : ((((HT.sIx its.toArray.size 0 lo : Nat) : Int) == 0 && (1 : Int) == 1 && (HT.sIx its.toArray.size its.toArray.size hi - HT.sIx its.toArray.size 0 lo) == its.toArray.size) = true) := by
    rw [hw.1, hw.2]; simp
  show wpAny _ _ (if (((HT.sIx its.toArray.size 0 lo : Nat) : Int) == 0 && (1 : Int) == 1 && (HT.sIx its.toArray.size its.toArray.size hi - HT.sIx its.toArray.size 0 lo) == its.toArray.size) = true then _ else _) _ _ s
  rw [if_pos hyes]
  have fin : EP X pins σ Q (.ref a) s := ⟨.ref a, H, I, rfl, q⟩
  refine wpAny_bind ?_
  unfold Builtin.Tuple.tupleIsExact
  refine wpAny_bind (wpAny_typeOf ht.typeIs (wpAny_pure ?_))
  rw [if_pos (by decide)]
  exact wpAny_bind (wpAny_rule (wpAny_pure ⟨_, rfl, wpAny_pure fin⟩))
def rSl (K : PySem.W.Frag) : V → Option Int → Option Int → Hp → VK → Prop := fun x lo hi H Q => ∃ ι m w, MemOk K ι m H ∧ RelW K ι H w x ∧ Post K W0 (RelW K) ι H [] Q (Rs.of (slO w lo hi m))
theorem SlRimp {r r' : V → Option Int → Option Int → Hp → VK → Prop} (h : SlR X r) (i : ∀ x lo hi H Q, r' x lo hi H Q → r x lo hi H Q) : SlR X r' :=
  fun pins s σ H x v vl vu lo hi sl Q I rx hs pl pu q => h pins s σ H x v vl vu lo hi sl Q I rx hs pl pu (i _ _ _ _ _ q)
theorem s_sl : SlR X (rSl X.K) := by
  refine SlRimp (SlR.or sl_str (SlR.or sl_list (SlR.or sl_tup sl_tupW))) fun x lo hi H Q ⟨ι, m, w, mo, r, p⟩ => ?_
  unfold slO at p
  split at p
  · rename_i z
    split at p
    · rename_i hl
      exact .inl ⟨z, relW_str r, by rw [← LIM_eq]; exact hl, post_ok p mo (.d (.str _))⟩
    · exact p.elim
  · rename_i n
    split at p
    · rename_i xs hc
      obtain ⟨a, rfl, e⟩ := relW_ref r
      obtain ⟨vs, q, rv⟩ := mo.cell _ _ _ e hc
      exact .inr (.inl ⟨a, vs, rfl, SqL.of q, fun p' hp => let ⟨c1, c2⟩ := cell_new mo hp (cut_ok rv lo hi); p _ _ _ (stp_new hp) c1 c2⟩)
    · exact p.elim
  · rename_i xs
    cases r with
    | rol h rv => exact .inr (.inl ⟨_, _, rfl, h.sqL, fun p' hp => let ⟨c1, c2⟩ := cell_new mo hp (cut_ok rv lo hi); p _ _ _ (stp_new hp) c1 c2⟩)
  · split at p
    · rename_i xs e
      obtain ⟨a, vs, rfl, h, rv⟩ := tupOf_ok e r
      by_cases hw : HT.sIx vs.length 0 lo = 0 ∧ HT.sIx vs.length vs.length hi = vs.length
      · have hw' : cutW xs lo hi = xs := by
          unfold cutW; rw [rv.length, hw.1, hw.2, ← rv.length]; simp
        rw [hw'] at p
        exact .inr (.inr (.inr ⟨a, vs, rfl, h, hw, post_ok p mo (mkTup_ok h rv)⟩))
      · exact .inr (.inr (.inl ⟨a, vs, rfl, h, hw, fun p' hp => p ι _ _ (stp_tup hp) (mo.tup hp) (mkTup_ok (SqT.of upd_same) ((cut_ok rv lo hi).step mo.apart (stp_tup hp)))⟩))
    · exact p.elim
abbrev tO (K : PySem.W.Frag) (W : L2.WX) (f : Eo) : TO := tG K W (fun _ _ a b => a = b) f
theorem POimp {e : Option Expr} {t t' : TO} (h : PO X e t) (i : ∀ σ H Q, t' σ H Q → t σ H Q) : PO X e t' := ⟨fun pins s σ H Q I hw => h.run pins s σ H Q I (i σ H Q hw)⟩
theorem do_none : PO X none (tO X.K W oNone) := POimp po_none fun σ H Q ⟨ι, env, m, eo, mo, p⟩ => post_ok p mo rfl
theorem do_some {e : Expr} {f : Em Wd} (h : PE X e (tE X.K W f)) : PO X (some e) (tO X.K W (oSome f)) :=
  POimp (po_some h) fun σ H Q ⟨ι, env, m, eo, mo, p⟩ => Post.bind eo mo p fun ι1 H1 a x m1 st1 mo1 eo1 ra p1 => by
    split at p1
    · rename_i i
      exact ⟨i, relW_int ra, post_ok p1 mo1 rfl⟩
    · exact p1.elim
theorem de_sl {e : Expr} {lo hi : Option Expr} {f : Em Wd} {fl fh : Eo} {p2 pos : Pos} (he : PE X e (tE X.K W f)) (hl : PO X lo (tO X.K W fl)) (hu : PO X hi (tO X.K W fh)) : PE X (.Subscript e (.Slice lo hi none p2) pos) (tE X.K W (eSl f fl fh)) :=
  PEimp (pe_slice s_sl he hl hu) fun σ H Q ⟨ι, env, m, eo, mo, p⟩ => Post.bind eo mo p fun ι1 H1 a x m1 st1 mo1 eo1 ra p1 => Post.bind eo1 mo1 p1 fun ι2 H2 l l' m2 st2 mo2 eo2 rl p2 => Post.bind eo2 mo2 p2 fun ι3 H3 h h' m3 st3 mo3 eo3 rh p3 => by
    subst rl; subst rh
    exact ⟨ι3, m3, a, mo3, (ra.step mo1.apart st2).step mo2.apart st3, p3.w0⟩
/-! ### isinstance -/
theorem kitB_of {a T : String} (ha : a ∈ ["NoneType", "bool", "int", "str", "tuple", "list", "dict"]) (hT : T ∈ ["bool", "int", "str", "tuple", "list", "dict"]) : kitB a T = some (isT a T) := by
  have all : (["NoneType", "bool", "int", "str", "tuple", "list", "dict"].all fun a => ["bool", "int", "str", "tuple", "list", "dict"].all fun T => decide (kitB a T = some (isT a T))) = true := by decide +kernel
  exact of_decide_eq_true (List.all_eq_true.mp (List.all_eq_true.mp all a ha) T hT)
theorem tyX_tup {a : Addr} {vs : List V} (h : SqT K H a vs) : TyX K H (.ref a) (.type "tuple") := by
  rcases h with (h | ⟨o, h⟩) | ⟨o, its, n, h, c, _⟩
  · exact .base (.tup h)
  · exact .fTuple h
  · exact .kTuple h c
theorem tyX_rol {a : Addr} {vs : List V} (h : Rol K H a vs) : TyX K H (.ref a) (.type "list") := by
  rcases h with ⟨o, h⟩ | ⟨o, its, n, h, c, _⟩
  · exact .base (.frz h)
  · exact .kList h c
theorem tyName_ok {w : Wd} {v : V} {a : String} (mo : MemOk K ι m H) (r : RelW K ι H w v) (h : tyName m w = some a) : TyX K H v (.type a) ∧ a ∈ ["NoneType", "bool", "int", "str", "tuple", "list", "dict"] := by
  cases r with
  | d r =>
    cases r with
    | non => cases h; exact ⟨.base .non, by decide⟩
    | bl _ => cases h; exact ⟨.base (.bl _), by decide⟩
    | int _ => cases h; exact ⟨.base (.int _), by decide⟩
    | str _ => cases h; exact ⟨.base (.str _), by decide⟩
    | tup q _ => cases h; exact ⟨tyX_tup q, by decide⟩
  | tup q _ => cases h; exact ⟨tyX_tup q, by decide⟩
  | rol q _ => cases h; exact ⟨tyX_rol q, by decide⟩
  | v _ => cases h
  | ref e =>
    simp only [tyName] at h
    split at h
    · rename_i xs hc
      cases h
      obtain ⟨vs, q, _⟩ := mo.cell _ _ _ e hc
      exact ⟨.base (.lst q), by decide⟩
    · rename_i xs hc
      cases h
      obtain ⟨vs, q, _⟩ := mo.cell _ _ _ e hc
      exact ⟨.base (.dK q), by decide⟩
    · cases h
theorem de_isi {T : String} {x : Str} {e : Expr} {f : Em Wd} {p p2 pos : Pos} (hT : T ∈ ["bool", "int", "str", "tuple", "list", "dict"]) (hg : Gl X "isinstance") (hm : X.mg "isinstance" = none) (hgT : Gl X x) (hmT : X.mg x = none) (hvT : bootBuiltins x = some (.type T)) (he : PE X e (tE X.K W f))
    (hv : bootBuiltins "isinstance" = some (.builtin "isinstance")) (hn : x ≠ "__name__" := by decide) (hd : (x == ("__debug__" : Str)) = false := by decide)
    (hs : starEach [e, .Name x p2] X.env = (false, eval e X.env) :: starEach [.Name x p2] X.env := by rfl) (hs2 : starEach [.Name x p2] X.env = (false, eval (.Name x p2) X.env) :: starEach [] X.env := by rfl) (hpl : (backTo pos (starEach [.Name x p2] X.env)).any (·.1) = false := by rfl) :
    PE X (.Call (.Name "isinstance" p) [e, .Name x p2] [] pos) (tE X.K W (eIsi [T] f)) :=
  PEimp (pe_callB call_isi hg hm hv (pa_cons he (pa_cons (pe_bltn (v := .ty T) hgT hmT hvT rfl hn hd) pa_nil hs2) hs) (by decide) (by decide) hs hpl) fun σ H Q ⟨ι, env, m, eo, mo, p⟩ => Post.bind eo mo p fun ι1 H1 a v m1 st1 mo1 eo1 ra p1 => by
    unfold isiO at p1
    cases q : tyName m1 a with
    | none => rw [q] at p1; exact p1.elim
    | some t =>
      rw [q] at p1
      obtain ⟨h1, h2⟩ := tyName_ok mo1 ra q
      refine ⟨v, .ty T, _, _, _, rfl, .ty T, h1, kit_ty (kitB_of h2 hT), ?_⟩
      have := post_ok p1 mo1 (.d (.bl _))
      simpa using this
theorem de_isi2 {T U : String} {x y : Str} {e : Expr} {f : Em Wd} {p p2 p3 p4 pos : Pos} {kk} (hT : T ∈ ["bool", "int", "str", "tuple", "list", "dict"]) (hU : U ∈ ["bool", "int", "str", "tuple", "list", "dict"]) (hg : Gl X "isinstance") (hm : X.mg "isinstance" = none) (hgT : Gl X x) (hmT : X.mg x = none) (hvT : bootBuiltins x = some (.type T))
    (hgU : Gl X y) (hmU : X.mg y = none) (hvU : bootBuiltins y = some (.type U)) (he : PE X e (tE X.K W f)) (hv : bootBuiltins "isinstance" = some (.builtin "isinstance")) (hn : x ≠ "__name__" := by decide) (hd : (x == ("__debug__" : Str)) = false := by decide) (hn2 : y ≠ "__name__" := by decide) (hd2 : (y == ("__debug__" : Str)) = false := by decide)
    (hs : starEach [e, .Tuple [.Name x p2, .Name y p3] kk p4] X.env = (false, eval e X.env) :: starEach [.Tuple [.Name x p2, .Name y p3] kk p4] X.env := by rfl) (hs2 : starEach [.Tuple [.Name x p2, .Name y p3] kk p4] X.env = (false, eval (.Tuple [.Name x p2, .Name y p3] kk p4) X.env) :: starEach [] X.env := by rfl)
    (hs3 : starEach [.Name x p2, .Name y p3] X.env = (false, eval (.Name x p2) X.env) :: starEach [.Name y p3] X.env := by rfl) (hs4 : starEach [.Name y p3] X.env = (false, eval (.Name y p3) X.env) :: starEach [] X.env := by rfl)
    (hpl : (backTo pos (starEach [.Tuple [.Name x p2, .Name y p3] kk p4] X.env)).any (·.1) = false := by rfl) :
    PE X (.Call (.Name "isinstance" p) [e, .Tuple [.Name x p2, .Name y p3] kk p4] [] pos) (tE X.K W (eIsi [T, U] f)) :=
  PEimp (pe_callB call_isiT hg hm hv (pa_cons he (pa_cons (pe_tup (pa_cons (pe_bltn (v := .ty T) hgT hmT hvT rfl hn hd) (pa_cons (pe_bltn (v := .ty U) hgU hmU hvU rfl hn2 hd2) pa_nil hs4) hs3)) pa_nil hs2) hs) (by decide) (by decide) hs hpl) fun σ H Q ⟨ι, env, m, eo, mo, p⟩ => Post.bind eo mo p fun ι1 H1 a v m1 st1 mo1 eo1 ra p1 => by
    unfold isiO at p1
    cases q : tyName m1 a with
    | none => rw [q] at p1; exact p1.elim
    | some t =>
      rw [q] at p1
      refine ⟨by show 2 ≤ sizeLine; rw [← LIM_eq]; decide, fun q' hq => ?_⟩
      have st2 : Stp ι1 H1 ι1 (upd H1 q' (.tup [V.ty T, V.ty U])) := stp_tup hq
      obtain ⟨h1, h2⟩ := tyName_ok (mo1.tup hq) (ra.step mo1.apart st2) q
      refine ⟨v, q', _, _, _, (isT t T || isT t U), rfl, upd_same, .cons (.ty T) (.cons (.ty U) .nil), h1, ?_, ?_⟩
      · refine kitAny_cons (kit_ty (kitB_of h2 hT)) (r := isT t T || isT t U) (fun e => ?_) (fun e => by rw [e]; rfl)
        rw [e]
        exact kitAny_cons (kit_ty (kitB_of h2 hU)) (r := isT t U) (fun e => by rw [e]; exact kitAny_nil) (fun e => e)
      · have := p1 ι1 _ (.bl _) st2 (mo1.tup hq) (.d (.bl _))
        simpa using this
end
end DL
set_option Elab.async false
set_option linter.all false
set_option maxRecDepth 100000
set_option maxHeartbeats 2000000
namespace DL
open PySem PySem.Spec PyProof.Rows L2
/-- a, b = x, y -/
def setsE : List Nat → List Wd → Env → Option Env
  | [], [], env => some env
  | i :: r, w :: ws, env => setsE r ws (env.set i (some w))
  | _, _, _ => none
def sPar (is : List Nat) (f : Em (List Wd)) : Sm := fun env m => rs (f env m) env fun ws m => match setsE is ws env with
  | some env => .go .nx env m
  | none => .stuck
/-! ### what may be walked -/
def iVal (f : Em Wd) : Em (List Wd × Gd) := fun env m => (f env m).bind fun w m => match w with
  | .d (.tuple ds) => .ok (ds.map .d, []) m
  | .tup ws => .ok (ws, []) m
  | .rol ws => .ok (ws, []) m
  | .ref n => match m.cells[n]? with
    | some (.lst xs) => .ok (xs, [(n, .lst xs)]) m
    | _ => .stuck
  | .d (.str x) => .ok (x.cps.toList.map fun c => .d (.str ⟨#[c]⟩), []) m
  | _ => .stuck
def range62 (i : Int) : Bool := decide (-(2 ^ 62) ≤ i ∧ i < 2 ^ 62)
def intsFrom (lo : Int) (n : Nat) : List Wd := (List.range n).map fun (k : Nat) => .d (.int (lo + k))
def iRan1 (f : Em (List Wd)) : Em (List Wd × Gd) := fun env m => (f env m).bind fun ws m => match ws with
  | [.d (.int j)] => if range62 j = true then .ok (intsFrom 0 j.toNat, []) m else .stuck
  | _ => .stuck
def iRan2 (f : Em (List Wd)) : Em (List Wd × Gd) := fun env m => (f env m).bind fun ws m => match ws with
  | [.d (.int i), .d (.int j)] => if (range62 i && range62 j) = true then .ok (intsFrom i (j - i).toNat, []) m else .stuck
  | _ => .stuck
section
variable {K : PySem.W.Frag} {W : L2.WX} {ι ι0 : List Addr} {H H0 : Hp} {env : Env} {σ : L2.St} {m : Mm} {X : Cx}
/-! ### methods of lists -/
theorem post_eM {g : Wd → List Wd → Mm → Option (Wd × Mm)} {r : V → List V → Hp → VK → Prop} {fo : Em Wd} {fa : Em (List Wd)} {Q : VK} (hg : ∀ ι m H w x ws xs Q, MemOk K ι m H → RelW K ι H w x → RelWs K ι H ws xs → Post K W0 (RelW K) ι H [] Q (Rs.of (g w ws m)) → r x xs H Q)
    (h : tE K W (eM g fo fa) σ H Q) : tBM K "list" r (tE K W fo) (tA K W fa) σ H Q := by
  obtain ⟨ι, env, m, eo, mo, p⟩ := h
  refine Post.bind eo mo p fun ι1 H1 a x m1 st1 mo1 eo1 ra p1 => ?_
  split at p1
  · rename_i n
    split at p1
    · rename_i xs hc
      obtain ⟨a, rfl, e⟩ := relW_ref ra
      obtain ⟨vs, q, rv⟩ := mo1.cell _ _ _ e hc
      refine ⟨.inl ⟨rfl, vs, SqL.of q⟩, ?_⟩
      exact Post.bind eo1 mo1 p1 fun ι2 H2 b y m2 st2 mo2 eo2 rb p2 => hg ι2 m2 H2 _ _ b y Q mo2 (ra.step mo1.apart st2) rb p2.w0
    · exact p1.elim
  · exact p1.elim
theorem post_eM0 {g : Wd → List Wd → Mm → Option (Wd × Mm)} {r : V → List V → Hp → VK → Prop} {fo : Em Wd} {Q : VK} (hg : ∀ ι m H w x ws xs Q, MemOk K ι m H → RelW K ι H w x → RelWs K ι H ws xs → Post K W0 (RelW K) ι H [] Q (Rs.of (g w ws m)) → r x xs H Q)
    (h : tE K W (eM g fo aN) σ H Q) : tBM0 K "list" r (tE K W fo) σ H Q := by
  obtain ⟨ι, env, m, eo, mo, p⟩ := h
  refine Post.bind eo mo p fun ι1 H1 a x m1 st1 mo1 eo1 ra p1 => ?_
  split at p1
  · rename_i n
    split at p1
    · rename_i xs hc
      obtain ⟨a, rfl, e⟩ := relW_ref ra
      obtain ⟨vs, q, rv⟩ := mo1.cell _ _ _ e hc
      exact ⟨.inl ⟨rfl, vs, SqL.of q⟩, hg ι1 m1 H1 _ _ [] [] Q mo1 ra .nil p1.w0⟩
    · exact p1.elim
  · exact p1.elim
theorem ltAll_append (k : Nat) : ∀ xs ys : List Wd, Wd.ltAll k (xs ++ ys) = (Wd.ltAll k xs && Wd.ltAll k ys)
  | [], ys => rfl
  | x :: xs, ys => by
    show (Wd.lt k x && Wd.ltAll k (xs ++ ys)) = ((Wd.lt k x && Wd.ltAll k xs) && Wd.ltAll k ys)
    rw [ltAll_append k xs ys, Bool.and_assoc]
mutual
theorem lt_mono {k l : Nat} (h : k ≤ l) : ∀ w : Wd, Wd.lt k w = true → Wd.lt l w = true
  | .d _, _ => rfl
  | .ref n, e => decide_eq_true (Nat.lt_of_lt_of_le (of_decide_eq_true e) h)
  | .tup xs, e => ltAll_mono h xs e
  | .rol xs, e => ltAll_mono h xs e
  | .v _, _ => rfl
theorem ltAll_mono {k l : Nat} (h : k ≤ l) : ∀ ws : List Wd, Wd.ltAll k ws = true → Wd.ltAll l ws = true
  | [], _ => rfl
  | w :: ws, e => by
    have e' : (Wd.lt k w && Wd.ltAll k ws) = true := e
    rw [Bool.and_eq_true] at e'
    show (Wd.lt l w && Wd.ltAll l ws) = true
    rw [lt_mono h w e'.1, ltAll_mono h ws e'.2]; rfl
end
theorem ltAll_mem {k : Nat} : ∀ {ws : List Wd}, Wd.ltAll k ws = true ↔ ∀ w ∈ ws, Wd.lt k w = true
  | [] => by simp [Wd.ltAll]
  | w :: ws => by
    show (Wd.lt k w && Wd.ltAll k ws) = true ↔ _
    rw [Bool.and_eq_true, ltAll_mem]; simp
/-- a list's cell gets other items -/
theorem cell_put {n : Nat} {a : Addr} {xs ys : List Wd} {us : List V} {pure : Bool} (mo : MemOk K ι m H) (e : ι[n]? = some a) (hc : m.cells[n]? = some (.lst xs)) (r : RelWs K ι H ys us) (hp : pure = true → ∀ w ∈ ys, w ∈ xs ∨ Wd.lt 0 w = true) :
    MemOk K ι (m.put n (.lst ys) pure) (upd H a (.lst us)) ∧ Stp ι H ι (upd H a (.lst us)) := by
  have ha : a ∈ ι := List.mem_of_getElem? e
  refine ⟨mo.put e hc ⟨us, upd_same, r.step mo.apart (stp_set ha)⟩ fun q b hb => ?_, stp_set ha⟩
  refine ltAll_mem.mpr fun w hw => ?_
  rcases hp q w hw with z | z
  · exact ltAll_mem.mp hb w z
  · exact lt_mono (Nat.zero_le _) w z
theorem m_app : ∀ ι m H w x ws xs Q, MemOk K ι m H → RelW K ι H w x → RelWs K ι H ws xs → Post K W0 (RelW K) ι H [] Q (Rs.of (appO w ws m)) → rAppend x xs H Q := by
  intro ι m H w x ws xs Q mo r rs p
  unfold appO at p
  split at p
  · rename_i n w
    split at p
    · rename_i ys hc
      split at p
      · rename_i hl
        obtain ⟨a, rfl, e⟩ := relW_ref r
        obtain ⟨vs, q, rv⟩ := mo.cell _ _ _ e hc
        obtain ⟨y, rfl, ry⟩ := vals_one rs
        have c := cell_put (pure := w.lt 0) mo e hc (rv.append (.cons ry .nil)) fun z u hu => by
          rcases List.mem_append.mp hu with h | h
          · exact .inl h
          · rw [List.mem_singleton.mp h]; exact .inr z
        exact ⟨a, vs, y, rfl, rfl, q, by rw [← rv.length, ← LIM_eq]; exact hl, p ι _ _ c.2 c.1 (.d .non)⟩
      · exact p.elim
    · exact p.elim
  · exact p.elim
theorem m_ext : ∀ ι m H w x ws xs Q, MemOk K ι m H → RelW K ι H w x → RelWs K ι H ws xs → Post K W0 (RelW K) ι H [] Q (Rs.of (extO w ws m)) → rExtend x xs H Q := by
  intro ι m H w x ws xs Q mo r rs p
  unfold extO at p
  split at p
  · rename_i n k
    split at p
    · rename_i ys zs hc hc2
      split at p
      · rename_i hl
        obtain ⟨a, rfl, e⟩ := relW_ref r
        obtain ⟨vs, q, rv⟩ := mo.cell _ _ _ e hc
        obtain ⟨y, rfl, ry⟩ := vals_one rs
        obtain ⟨b, rfl, e2⟩ := relW_ref ry
        obtain ⟨us, q2, ru⟩ := mo.cell _ _ _ e2 hc2
        have c := cell_put (pure := Wd.ltAll 0 zs) mo e hc (rv.append ru) fun z u hu => by
          rcases List.mem_append.mp hu with h | h
          · exact .inl h
          · exact .inr (ltAll_mem.mp z u h)
        exact ⟨a, b, vs, us, rfl, rfl, q, q2, by rw [← rv.length, ← ru.length, ← LIM_eq]; exact hl, p ι _ _ c.2 c.1 (.d .non)⟩
      · exact p.elim
    · exact p.elim
  · exact p.elim
theorem RelWs.eraseIdx : ∀ {ws : List Wd} {vs : List V} (n : Nat), RelWs K ι H ws vs → RelWs K ι H (ws.eraseIdx n) (vs.eraseIdx n)
  | _, _, _, .nil => .nil
  | _, _, 0, .cons h hs => hs
  | _, _, n + 1, .cons h hs => .cons h (RelWs.eraseIdx n hs)
theorem RelWs.dropLast {ws : List Wd} {vs : List V} (r : RelWs K ι H ws vs) : RelWs K ι H ws.dropLast vs.dropLast := by
  rw [List.dropLast_eq_take, List.dropLast_eq_take, r.length]
  exact r.take _
theorem m_pop : ∀ ι m H w x ws xs Q, MemOk K ι m H → RelW K ι H w x → RelWs K ι H ws xs → Post K W0 (RelW K) ι H [] Q (Rs.of (popO w ws m)) → (rPopAt x xs H Q ∨ rPop x xs H Q) := by
  intro ι m H w x ws xs Q mo r rs p
  unfold popO at p
  split at p
  · rename_i n i
    split at p
    · rename_i ys hc
      split at p
      · rename_i hi
        split at p
        · rename_i k hk
          split at p
          · rename_i u hu
            obtain ⟨a, rfl, e⟩ := relW_ref r
            obtain ⟨vs, q, rv⟩ := mo.cell _ _ _ e hc
            obtain ⟨y, rfl, ry⟩ := vals_one rs
            obtain ⟨z, q1, q2⟩ := rv.get hu
            have c := cell_put (pure := true) mo e hc (rv.eraseIdx k) fun _ u hu => .inl (List.mem_of_mem_eraseIdx hu)
            refine .inl ⟨a, vs, i, k, z, rfl, by rw [relW_int ry], q, hi.1, hi.2, by rw [← rv.length]; exact hk, q1, p ι _ _ c.2 c.1 (q2.step mo.apart c.2)⟩
          · exact p.elim
        · exact p.elim
      · exact p.elim
    · exact p.elim
  · rename_i n
    split at p
    · rename_i ys hc
      split at p
      · rename_i u hu
        obtain ⟨a, rfl, e⟩ := relW_ref r
        obtain ⟨vs, q, rv⟩ := mo.cell _ _ _ e hc
        cases rs
        rw [rv.length] at hu
        obtain ⟨z, q1, q2⟩ := rv.get hu
        have c := cell_put (pure := true) mo e hc rv.dropLast fun _ u hu => .inl (List.mem_of_mem_take (by rw [List.dropLast_eq_take] at hu; exact hu))
        exact .inr ⟨a, vs, z, rfl, rfl, q, q1, p ι _ _ c.2 c.1 (q2.step mo.apart c.2)⟩
      · exact p.elim
    · exact p.elim
  · exact p.elim
theorem de_app {o e : Expr} {es : List Expr} {fo : Em Wd} {fa : Em (List Wd)} {apos cpos : Pos} (ho : PE X o (tE X.K W fo)) (ha : PA X (e :: es) (tA X.K W fa))
    (hbase : attributeBase o "append" X.env (eval o X.env) = eval o X.env := by rfl)
    (hfew : ((backTo cpos (starEach (e :: es) X.env)).all (fun x => !x.1) && (backToKw cpos (keywordEach [] X.env)).all (fun x => x.1.isSome)
      && decide ((e :: es).length + ([] : List Keyword).length + (if ([] : List Keyword).isEmpty then 0 else 1) < 30)) = true := by rfl)
    (hline : (apos.endLine == cpos.line) = true := by rfl) (hs : starEach (e :: es) X.env = (false, eval e X.env) :: starEach es X.env := by rfl) (hplain : (backTo cpos (starEach es X.env)).any (·.1) = false := by rfl) :
    PE X (.Call (.Attribute o "append" apos) (e :: es) [] cpos) (tE X.K W (eM appO fo fa)) :=
  PEimp (pe_bm PySem.F.plainAttrs_list PySem.F.slot_list_append PySem.F.type_list_append mt_append ho ha hbase hfew hline hs hplain) fun σ H Q h => post_eM m_app h
theorem de_ext {o e : Expr} {es : List Expr} {fo : Em Wd} {fa : Em (List Wd)} {apos cpos : Pos} (ho : PE X o (tE X.K W fo)) (ha : PA X (e :: es) (tA X.K W fa))
    (hbase : attributeBase o "extend" X.env (eval o X.env) = eval o X.env := by rfl)
    (hfew : ((backTo cpos (starEach (e :: es) X.env)).all (fun x => !x.1) && (backToKw cpos (keywordEach [] X.env)).all (fun x => x.1.isSome)
      && decide ((e :: es).length + ([] : List Keyword).length + (if ([] : List Keyword).isEmpty then 0 else 1) < 30)) = true := by rfl)
    (hline : (apos.endLine == cpos.line) = true := by rfl) (hs : starEach (e :: es) X.env = (false, eval e X.env) :: starEach es X.env := by rfl) (hplain : (backTo cpos (starEach es X.env)).any (·.1) = false := by rfl) :
    PE X (.Call (.Attribute o "extend" apos) (e :: es) [] cpos) (tE X.K W (eM extO fo fa)) :=
  PEimp (pe_bm PySem.F.plainAttrs_list PySem.F.slot_list_extend PySem.F.type_list_extend mt_extend ho ha hbase hfew hline hs hplain) fun σ H Q h => post_eM m_ext h
theorem MtRor {id : String} {r r' : V → List V → Hp → VK → Prop} (h : MtR X id r) (h' : MtR X id r') : MtR X id (fun x xs H Q => r x xs H Q ∨ r' x xs H Q) := MtR.or h h'
theorem de_pop {o e : Expr} {es : List Expr} {fo : Em Wd} {fa : Em (List Wd)} {apos cpos : Pos} (ho : PE X o (tE X.K W fo)) (ha : PA X (e :: es) (tA X.K W fa))
    (hbase : attributeBase o "pop" X.env (eval o X.env) = eval o X.env := by rfl)
    (hfew : ((backTo cpos (starEach (e :: es) X.env)).all (fun x => !x.1) && (backToKw cpos (keywordEach [] X.env)).all (fun x => x.1.isSome)
      && decide ((e :: es).length + ([] : List Keyword).length + (if ([] : List Keyword).isEmpty then 0 else 1) < 30)) = true := by rfl)
    (hline : (apos.endLine == cpos.line) = true := by rfl) (hs : starEach (e :: es) X.env = (false, eval e X.env) :: starEach es X.env := by rfl) (hplain : (backTo cpos (starEach es X.env)).any (·.1) = false := by rfl) :
    PE X (.Call (.Attribute o "pop" apos) (e :: es) [] cpos) (tE X.K W (eM popO fo fa)) :=
  PEimp (pe_bm PySem.F.plainAttrs_list PySem.F.slot_list_pop PySem.F.type_list_pop (MtRor mt_popAt mt_pop) ho ha hbase hfew hline hs hplain) fun σ H Q h => post_eM m_pop h
theorem de_pop0 {o : Expr} {fo : Em Wd} {apos cpos : Pos} (ho : PE X o (tE X.K W fo))
    (hbase : attributeBase o "pop" X.env (eval o X.env) = eval o X.env := by rfl) (hline : (apos.endLine == cpos.line) = true := by rfl) :
    PE X (.Call (.Attribute o "pop" apos) [] [] cpos) (tE X.K W (eM popO fo aN)) :=
  PEimp (pe_bm0 PySem.F.plainAttrs_list PySem.F.slot_list_pop PySem.F.type_list_pop (MtRor mt_popAt mt_pop) ho hbase hline) fun σ H Q h => post_eM0 m_pop h
/-! ### stores -/
def rSet (K : PySem.W.Frag) : TSet := fun o i v H Q => ∃ ι m wo wi w m', MemOk K ι m H ∧ RelW K ι H wo o ∧ RelW K ι H wi i ∧ RelW K ι H w v ∧ setO wo wi w m = some m' ∧ ∀ H', Stp ι H ι H' → MemOk K ι m' H' → Q H'
theorem ixN_len {n k : Nat} {i : Int} (h : ixN n i = some k) : k < n := by
  unfold ixN at h
  split at h
  · split at h
    · cases h; omega
    · cases h
  · split at h
    · cases h; omega
    · cases h
theorem s_set : PSet X (rSet X.K) := by
  intro pins s σ H o i v ov iv u Q I ro ri rv h
  obtain ⟨ι, m, wo, wi, w, m', mo, r1, r2, r3, e, q⟩ := h
  unfold setO at e
  split at e
  · rename_i n k
    split at e
    · rename_i xs hc
      split at e
      · rename_i j hj
        cases e
        obtain ⟨a, rfl, ea⟩ := relW_ref r1
        obtain ⟨vs, q1, rr⟩ := mo.cell _ _ _ ea hc
        have c := cell_put (pure := w.lt 0) mo ea hc (rr.set r3 j) fun z y hy => by
          rcases List.mem_or_eq_of_mem_set hy with h | h
          · exact .inl h
          · rw [h]; exact .inr z
        exact set_list pins s σ H _ _ _ ov iv u Q I ro ri rv ⟨a, vs, k, j, rfl, relW_int r2, q1, by rw [← rr.length]; exact hj, q _ c.2 c.1⟩
      · cases e
    · cases e
  · cases e
theorem ds_sub {o i e : Expr} {fo fi fv : Em Wd} {pos pos' : Pos} (hv : PE X e (tE X.K W fv)) (ho : PE X o (tE X.K W fo)) (hi : PE X i (tE X.K W fi))
    (ha : ∀ v, assign (.Subscript o i pos') X.env v = (do
      let ov ← holding [v] (eval o X.env)
      let iv ← holding [v, ov] (eval i X.env)
      standAt pos'
      holding [v, ov, iv] (setItem ov iv v)
      release [v, ov, iv] []) := by intro _; rfl) (hs : swapsWithSole [.Subscript o i pos'] e pos.line X.env = pure false := by rfl) (hw : swappedStores [.Subscript o i pos'] e X.env = pure none := by rfl)
    (h1 : (assignEach [.Subscript o i pos'] X.env).map (·.2) = [assign (.Subscript o i pos') X.env] := by rfl) : PS X (.Assign [.Subscript o i pos'] e pos) (tS X.K W (sSub fo fi fv)) :=
  PSimp (ps_asg hv (pg_sub ho hi s_set ha) hs hw h1) fun D σ H ⟨ι, env, m, eo, mo, p⟩ => PostS.bind eo mo p fun ι1 H1 v x m1 st1 mo1 eo1 rv p1 => PostS.bind eo1 mo1 p1 fun ι2 H2 o' y m2 st2 mo2 eo2 ro p2 => PostS.bind eo2 mo2 p2 fun ι3 H3 i' z m3 st3 mo3 eo3 ri p3 => by
    cases q : setO o' i' v m3 with
    | none => rw [q] at p3; exact p3.elim
    | some m4 =>
      rw [q] at p3
      exact ⟨ι3, m3, o', i', v, m4, mo3, ro.step mo2.apart st3, ri, (rv.step mo1.apart st2).step mo2.apart st3, q, fun H' st mo4 => p3 ι3 H' σ st mo4 (eo3.step mo3.apart st)⟩
/-- o[i] by getItem -/
theorem pget_list : PGet X (fun o i H Q => ∃ p xs k v, o = .ref p ∧ i = .int k ∧ SqL X.K H p xs ∧ 0 ≤ k ∧ xs[k.toNat]? = some v ∧ Q v H) := by
  intro pins s σ H o i ov iv Q I ro ri h
  obtain ⟨p, xs, k, v, rfl, rfl, hq, h0, hx, q⟩ := h
  cases ro
  obtain ⟨t, rfl⟩ := ri
  obtain ⟨its, r, pl, hz⟩ := I.list hq
  obtain ⟨w, ew, rw'⟩ := r.get hx
  have hn := line63
  have := get_of hx
  exact wpAny_getItem_list pl.isList h0 (by omega) (by simpa using ew) ⟨v, H, I, rw', q⟩
def ixLO (x y : Wd) (m : Mm) : Option Wd := match x, y with
  | .ref n, .d (.int i) => match m.cells[n]? with
    | some (.lst xs) => if 0 ≤ i then xs[i.toNat]? else none
    | _ => none
  | _, _ => none
def sAugL (g : Op2) (fo fi fv : Em Wd) : Sm := fun env m => rs (fo env m) env fun o m => rs (fi env m) env fun i m => match ixLO o i m with
  | some x => rs (fv env m) env fun y m => rs (Rs.of (g x y m)) env fun z m => match setO o i z m with
    | some m => .go .nx env m
    | none => .stuck
  | none => .stuck
def iaddO : Op2 := fun a b m => match a, b with
    | .d (.int i), .d (.int j) => some (.d (.int (i + j)), m)
    | .d (.str x), .d (.str y) => if x.length + y.length ≤ LIM then some (.d (.str (x ++ y)), m) else none
    | _, _ => none
theorem p_iadd : PIp X .Add (rO X.K iaddO) := by
  refine fun pins s σ H x y v u Q I rx ry h => (OpRimp (OpR.or iop_add iop_add_str) fun x y H Q ⟨ι, m, a, b, mo, ra, rb, p⟩ => ?_) pins s σ H x y v u Q I rx ry h
  unfold iaddO at p
  split at p
  · exact .inl ⟨_, _, relW_int ra, relW_int rb, post_ok p mo (.d (.int _))⟩
  · split at p
    · exact .inr ⟨_, _, relW_str ra, relW_str rb, by rw [← LIM_eq]; assumption, post_ok p mo (.d (.str _))⟩
    · exact p.elim
  · exact p.elim
theorem ip_of {op : Operator} {g : Op2} (h : OpR X (inplaceOp op) (rO X.K g)) : PIp X op (rO X.K g) := h
theorem a_add : PIp X .Add (rO X.K iaddO) := p_iadd
theorem a_sub : PIp X .Sub (rO X.K subO) := ip_of (intO_ok0 iop_sub fun _ _ _ => .int _)
theorem a_shr : PIp X .RShift (rO X.K shrO) := ip_of (intO_ok iop_shr (fun _ _ h => of_decide_eq_true h) fun _ _ _ => .int _)
theorem ds_augL {o i e : Expr} {op : Operator} {g : Op2} {fo fi fv : Em Wd} {pos pos' : Pos} (hp : PIp X op (rO X.K g)) (ho : PE X o (tE X.K W fo)) (hi : PE X i (tE X.K W fi)) (hv : PE X e (tE X.K W fv))
    (ha : ∀ ov iv new, augStore i ov iv new = (do holding [new, ov, iv] (setItem ov iv new); release [new, ov, iv] []; pure .next) := by intros; rfl) : PS X (.AugAssign (.Subscript o i pos') op e pos) (tS X.K W (sAugL g fo fi fv)) :=
  PSimp (ps_augS ho hi pget_list hv hp s_set ha) fun D σ H ⟨ι, env, m, eo, mo, p⟩ => PostS.bind eo mo p fun ι1 H1 o' x m1 st1 mo1 eo1 ro p1 => PostS.bind eo1 mo1 p1 fun ι2 H2 i' y m2 st2 mo2 eo2 ri p2 => by
    cases q : ixLO o' i' m2 with
    | none => rw [q] at p2; exact p2.elim
    | some w =>
      rw [q] at p2
      have ro2 := ro.step mo1.apart st2
      unfold ixLO at q
      split at q
      · rename_i n k
        split at q
        · rename_i xs hc
          split at q
          · rename_i h0
            obtain ⟨a, rfl, ea⟩ := relW_ref ro2
            obtain ⟨vs, q1, rr⟩ := mo2.cell _ _ _ ea hc
            obtain ⟨v, q2, rw'⟩ := rr.get q
            refine ⟨a, vs, k, v, rfl, relW_int ri, SqL.of q1, h0, q2, ?_⟩
            refine PostS.bind eo2 mo2 p2 fun ι3 H3 y' y m3 st3 mo3 eo3 ry p3 => ?_
            cases q3 : g w y' m3 with
            | none => rw [q3] at p3; exact p3.elim
            | some zm =>
              obtain ⟨z, m4⟩ := zm
              rw [q3] at p3
              simp only [Rs.of_some, rs_ok] at p3
              refine ⟨ι3, m3, w, y', mo3, rw'.step mo2.apart st3, ry, ?_⟩
              rw [q3]
              intro ι4 H4 u st4 mo4 rz
              cases q4 : setO (.ref n) (.d (.int k)) z m4 with
              | none => rw [q4] at p3; exact p3.elim
              | some m5 =>
                rw [q4] at p3
                exact ⟨ι4, m4, _, _, z, m5, mo4, (ro2.step mo2.apart st3).step mo3.apart st4, (ri.step mo2.apart st3).step mo3.apart st4, rz, q4, fun H' st mo5 => p3 ι4 H' σ (st4.trans st) mo5 ((eo3.step mo3.apart st4).step mo4.apart st)⟩
          · cases q
        · cases q
      · cases q
theorem ds_aug {i : Nat} {x : Str} {e : Expr} {op : Operator} {g : Op2} {f : Em Wd} {pos pos' : Pos} (hp : PIp X op (rO X.K g)) (hN : X.N.Nodup) (hi : X.N[i]? = some x) (hx : Loc X.env.scope x) (he : PE X e (tE X.K W f)) (hf : X.fn x = true ∨ X.env.scope.names.lookup x = some .local := by first | exact .inl rfl | exact .inr rfl | assumption) :
    PS X (.AugAssign (.Name x pos') op e pos) (tS X.K W (sAug i g f)) :=
  PSimp (ps_aug hN hi hx he hp hf) fun D σ H ⟨ι, env, m, eo, mo, p⟩ => by
    unfold sAug at p
    cases q : env[i]? with
    | none => rw [q] at p; exact p.elim
    | some o =>
      cases o with
      | none => rw [q] at p; exact p.elim
      | some w =>
        rw [q] at p
        obtain ⟨v, q1, rw'⟩ := eo.2 i w q
        refine ⟨v, q1, PostS.bind eo mo p fun ι1 H1 y' y m1 st1 mo1 eo1 ry p1 => ⟨ι1, m1, w, y', mo1, rw'.step mo.apart st1, ry, ?_⟩⟩
        cases q3 : g w y' m1 with
        | none => rw [q3] at p1; exact p1.elim
        | some zm =>
          obtain ⟨z, m4⟩ := zm
          rw [q3] at p1
          simp only [Rs.of_some, rs_ok] at p1
          exact fun ι4 H4 u st4 mo4 rz => p1 ι4 H4 _ st4 mo4 ((eo1.step mo1.apart st4).set rz)
theorem sets_ok : ∀ {is : List Nat} {ws : List Wd} {vs : List V} {env env' : Env} {σ : L2.St}, EnvOk K ι H env σ → RelWs K ι H ws vs → setsE is ws env = some env' → EnvOk K ι H env' ((is.zip vs).foldl (fun σ p => σ.set p.1 (some p.2)) σ) ∧ is.length = vs.length
  | [], [], _, _, _, _, eo, .nil, e => by cases e; exact ⟨eo, rfl⟩
  | i :: is, w :: ws, _, _, _, _, eo, .cons r rs, e => by
    obtain ⟨h1, h2⟩ := sets_ok (is := is) (eo.set r) rs e
    exact ⟨h1, congrArg (· + 1) h2⟩
  | [], _ :: _, _, _, _, _, _, _, e => by cases e
  | _ :: _, [], _, _, _, _, _, _, e => by cases e
theorem ds_par {i j : Nat} {st : Stmt} {f : Em (List Wd)} (h : PS X st (tPar i j (tA X.K W f))) : PS X st (tS X.K W (sPar [i, j] f)) :=
  PSimp h fun D σ H ⟨ι, env, m, eo, mo, p⟩ => PostS.bind eo mo p fun ι1 H1 ws vs m1 st1 mo1 eo1 ra p1 => by
    cases q : setsE [i, j] ws env with
    | none => rw [q] at p1; exact p1.elim
    | some e1 =>
      rw [q] at p1
      obtain ⟨h1, h2⟩ := sets_ok eo1 ra q
      match vs, h2 with
      | [v, u], _ => exact ⟨v, u, rfl, p1 ι1 H1 _ .refl mo1 h1⟩
theorem ds_par3 {i j l : Nat} {st : Stmt} {f : Em (List Wd)} (h : PS X st (tPar3 i j l (tA X.K W f))) : PS X st (tS X.K W (sPar [i, j, l] f)) :=
  PSimp h fun D σ H ⟨ι, env, m, eo, mo, p⟩ => PostS.bind eo mo p fun ι1 H1 ws vs m1 st1 mo1 eo1 ra p1 => by
    cases q : setsE [i, j, l] ws env with
    | none => rw [q] at p1; exact p1.elim
    | some e1 =>
      rw [q] at p1
      obtain ⟨h1, h2⟩ := sets_ok eo1 ra q
      match vs, h2 with
      | [v, u, w], _ => exact ⟨v, u, w, rfl, p1 ι1 H1 _ .refl mo1 h1⟩
/-! ### sources -/
theorem src_list {n : Nat} {a : Addr} {xs : List Wd} (e : ι0[n]? = some a) : Src K (Itl K a) xs [(n, .lst xs)] ι0 H0 := by
  have look : ∀ {ι m H}, Stp ι0 H0 ι H → MemOk K ι m H → gdOk [(n, Cell.lst xs)] m = true → ∃ vs, H a = some (.lst vs) ∧ RelWs K ι H xs vs := fun st mo hg =>
    mo.cell n a _ (pre_get st.pre e) (gdOk_iff.mp hg (n, .lst xs) (List.mem_singleton.mpr rfl))
  refine ⟨fun i ι m H hi st mo hg => ?_, fun i ι m H x H' w st mo hg hy hw => ?_, fun i ι m H hi st mo hg => ?_⟩
  · obtain ⟨vs, q, r⟩ := look st mo hg
    have : i < vs.length := by rw [← r.length]; exact hi
    exact ⟨vs, vs[i], SqL.of q, List.getElem?_eq_getElem this⟩
  · obtain ⟨vs, q, r⟩ := look st mo hg
    obtain ⟨rfl, h⟩ := hy
    obtain ⟨v, q1, q2⟩ := r.get hw
    have : x = v := by have := h vs (SqL.of q); rw [q1] at this; cases this; rfl
    subst this
    exact ⟨.refl, mo, q2⟩
  · obtain ⟨vs, q, r⟩ := look st mo hg
    exact ⟨vs, SqL.of q, by rw [← r.length]; exact hi⟩
theorem src_tup {a : Addr} {xs : List Wd} {vs : List V} (ap : Apart ι0 H0) (h : SqT K H0 a vs) (r : RelWs K ι0 H0 xs vs) : Src K (Itt K a) xs [] ι0 H0 := by
  refine ⟨fun i ι m H hi st mo hg => ?_, fun i ι m H x H' w st mo hg hy hw => ?_, fun i ι m H hi st mo hg => ?_⟩
  · have : i < vs.length := by rw [← r.length]; exact hi
    exact ⟨vs, vs[i], sqT_step ap st h, List.getElem?_eq_getElem this⟩
  · obtain ⟨rfl, h2⟩ := hy
    obtain ⟨v, q1, q2⟩ := (r.step ap st).get hw
    have : x = v := by have := h2 vs (sqT_step ap st h); rw [q1] at this; cases this; rfl
    subst this
    exact ⟨.refl, mo, q2⟩
  · exact ⟨vs, sqT_step ap st h, by rw [← r.length]; exact hi⟩
theorem src_rol {a : Addr} {xs : List Wd} {vs : List V} (ap : Apart ι0 H0) (h : Rol K H0 a vs) (r : RelWs K ι0 H0 xs vs) : Src K (Itl K a) xs [] ι0 H0 := by
  refine ⟨fun i ι m H hi st mo hg => ?_, fun i ι m H x H' w st mo hg hy hw => ?_, fun i ι m H hi st mo hg => ?_⟩
  · have : i < vs.length := by rw [← r.length]; exact hi
    exact ⟨vs, vs[i], (rol_step ap st h).sqL, List.getElem?_eq_getElem this⟩
  · obtain ⟨rfl, h2⟩ := hy
    obtain ⟨v, q1, q2⟩ := (r.step ap st).get hw
    have : x = v := by have := h2 vs (rol_step ap st h).sqL; rw [q1] at this; cases this; rfl
    subst this
    exact ⟨.refl, mo, q2⟩
  · exact ⟨vs, (rol_step ap st h).sqL, by rw [← r.length]; exact hi⟩
theorem src_str {x : Str} : Src K (Its x) (x.cps.toList.map fun c => .d (.str ⟨#[c]⟩)) [] ι0 H0 := by
  refine ⟨fun i ι m H hi st mo hg => ?_, fun i ι m H v H' w st mo hg hy hw => ?_, fun i ι m H hi st mo hg => ?_⟩
  · rw [List.length_map, Array.length_toList] at hi; exact hi
  · obtain ⟨rfl, c, hc, rfl⟩ := hy
    rw [List.getElem?_map, Array.getElem?_toList, hc] at hw
    cases hw
    exact ⟨.refl, mo, .d (.str _)⟩
  · rw [List.length_map, Array.length_toList] at hi; exact hi
theorem src_range {lo : Int} {n : Nat} : Src K (Itr lo n) (intsFrom lo n) [] ι0 H0 := by
  refine ⟨fun i ι m H hi st mo hg => ?_, fun i ι m H v H' w st mo hg hy hw => ?_, fun i ι m H hi st mo hg => ?_⟩
  · rw [intsFrom, List.length_map, List.length_range] at hi; exact hi
  · obtain ⟨rfl, rfl⟩ := hy
    rw [intsFrom, List.getElem?_map] at hw
    obtain ⟨k, h1, h2⟩ := Option.map_eq_some_iff.mp hw
    rw [List.getElem?_range (by have := get_of h1; rwa [List.length_range] at this)] at h1
    cases h1
    subst h2
    exact ⟨.refl, mo, .d (.int _)⟩
  · rw [intsFrom, List.length_map, List.length_range] at hi; exact hi
theorem di_val {tg e : Expr} {f : Em Wd} (h : PE X e (tE X.K W f)) : PI X tg e (tI X.K W (iVal f)) := by
  refine PIimp (PIor (pi_list h) (PIor (pi_tup h) (pi_str h))) fun σ H R ⟨ι, env, m, eo, mo, p⟩ => ?_
  unfold iVal at p
  -- the expression's own end
  have go : ∀ {β : Prop} (P : V → Hp → Prop), (∀ w m1, f env m = .ok w m1 → ∀ ι1 H1 v, Stp ι H ι1 H1 → MemOk X.K ι1 m1 H1 → RelW X.K ι1 H1 w v → P v H1) → (∀ x m1, f env m = .exc x m1 → ∀ ι1 H1 cls d, Stp ι H ι1 H1 → MemOk X.K ι1 m1 H1 → ExOk X.K ι1 H1 x cls d → W cls d σ H1) → (f env m = .stuck → False) → tE X.K W f σ H P := fun {β} P h1 h2 h3 => by
    refine ⟨ι, env, m, eo, mo, ?_⟩
    cases q : f env m with
    | ok w m1 => exact fun ι1 H1 v st mo1 r => h1 w m1 q ι1 H1 v st mo1 r
    | exc x m1 => exact fun ι1 H1 c d st mo1 xo => h2 x m1 q ι1 H1 c d st mo1 xo
    | stuck => exact h3 q
  cases q : f env m with
  | stuck => rw [q] at p; exact p.elim
  | exc x m1 =>
    rw [q] at p
    exact .inl (go (β := True) _ (fun w m2 e => by rw [q] at e; cases e) (fun x' m2 e => by rw [q] at e; cases e; exact p) (fun e => by rw [q] at e; cases e))
  | ok w m1 =>
    rw [q] at p
    have gg : ∀ P : V → Hp → Prop, (∀ ι1 H1 v, Stp ι H ι1 H1 → MemOk X.K ι1 m1 H1 → RelW X.K ι1 H1 w v → P v H1) → tE X.K W f σ H P := fun P hP =>
      go (β := True) P (fun w' m2 e => by rw [q] at e; cases e; exact hP) (fun x' m2 e => by rw [q] at e; cases e) (fun e => by rw [q] at e; cases e)
    simp only [Rs.bind_ok] at p
    split at p
    · rename_i xs gd m2 hh
      split at hh
      · rename_i ds
        cases hh
        refine .inr (.inl (gg _ fun ι1 H1 v st mo1 r => ?_))
        obtain ⟨a, vs, rfl, h1, rv⟩ := tupOf_ok (w := .d (.tuple ds)) rfl r
        exact ⟨a, rfl, ⟨vs, h1⟩, p ι1 H1 _ st mo1 (src_tup mo1.apart h1 rv)⟩
      · rename_i ws
        cases hh
        refine .inr (.inl (gg _ fun ι1 H1 v st mo1 r => ?_))
        obtain ⟨a, vs, rfl, h1, rv⟩ := tupOf_ok (w := .tup xs) rfl r
        exact ⟨a, rfl, ⟨vs, h1⟩, p ι1 H1 _ st mo1 (src_tup mo1.apart h1 rv)⟩
      · rename_i ws
        cases hh
        refine .inl (gg _ fun ι1 H1 v st mo1 r => ?_)
        cases r with
        | rol h1 rv => exact ⟨_, rfl, ⟨_, h1.sqL⟩, p ι1 H1 _ st mo1 (src_rol mo1.apart h1 rv)⟩
      · rename_i n
        split at hh
        · rename_i ys hc
          cases hh
          refine .inl (gg _ fun ι1 H1 v st mo1 r => ?_)
          obtain ⟨a, rfl, e⟩ := relW_ref r
          obtain ⟨vs, q1, rv⟩ := mo1.cell _ _ _ e hc
          exact ⟨a, rfl, ⟨vs, SqL.of q1⟩, p ι1 H1 _ st mo1 (src_list e)⟩
        · cases hh
      · rename_i x
        cases hh
        refine .inr (.inr (gg _ fun ι1 H1 v st mo1 r => ?_))
        exact ⟨x, relW_str r, p ι1 H1 _ st mo1 src_str⟩
      · cases hh
    · rename_i x m2 hh
      split at hh <;> first | (cases hh; done) | (split at hh <;> cases hh)
    · exact p.elim
theorem di_ran1 {tg a : Expr} {f : Em (List Wd)} {p pos : Pos} (hg : Gl X "range") (hm : X.mg "range" = none) (ha : PA X [a] (tA X.K W f)) (hs : starEach [a] X.env = [(false, eval a X.env)] := by rfl) : PI X tg (.Call (.Name "range" p) [a] [] pos) (tI X.K W (iRan1 f)) := by
  refine PIimp (pi_range1 hg hm ha hs) fun σ H R ⟨ι, env, m, eo, mo, p⟩ => ?_
  unfold iRan1 at p
  refine ⟨ι, env, m, eo, mo, ?_⟩
  cases q : f env m with
  | stuck => rw [q] at p; exact p.elim
  | exc x m1 => rw [q] at p; exact p
  | ok ws m1 =>
    rw [q] at p
    simp only [Rs.bind_ok] at p
    split at p
    · rename_i xs gd m2 hh
      split at hh
      · rename_i j
        split at hh
        · rename_i hj
          cases hh
          intro ι1 H1 vs st mo1 r
          obtain ⟨v, rfl, rv⟩ := vals_one r
          have := of_decide_eq_true hj
          exact ⟨j, by rw [relW_int rv], this.1, this.2, p ι1 H1 _ st mo1 src_range⟩
        · cases hh
      · cases hh
    · rename_i x m2 hh
      split at hh <;> first | (cases hh; done) | (split at hh <;> cases hh)
    · exact p.elim
theorem di_ran2 {tg a b : Expr} {f : Em (List Wd)} {p pos : Pos} (hg : Gl X "range") (hm : X.mg "range" = none) (ha : PA X [a, b] (tA X.K W f)) (hs : starEach [a, b] X.env = [(false, eval a X.env), (false, eval b X.env)] := by rfl) (hs2 : starEach [b] X.env = [(false, eval b X.env)] := by rfl) : PI X tg (.Call (.Name "range" p) [a, b] [] pos) (tI X.K W (iRan2 f)) := by
  refine PIimp (pi_range2 hg hm ha hs hs2) fun σ H R ⟨ι, env, m, eo, mo, p⟩ => ?_
  unfold iRan2 at p
  refine ⟨ι, env, m, eo, mo, ?_⟩
  cases q : f env m with
  | stuck => rw [q] at p; exact p.elim
  | exc x m1 => rw [q] at p; exact p
  | ok ws m1 =>
    rw [q] at p
    simp only [Rs.bind_ok] at p
    split at p
    · rename_i xs gd m2 hh
      split at hh
      · rename_i i j
        split at hh
        · rename_i hj
          cases hh
          intro ι1 H1 vs st mo1 r
          cases r with
          | cons ra rr =>
            obtain ⟨v, rfl, rv⟩ := vals_one rr
            rw [Bool.and_eq_true] at hj
            have h1 := of_decide_eq_true hj.1
            have h2 := of_decide_eq_true hj.2
            exact ⟨i, j, by rw [relW_int rv, relW_int ra], ⟨h1.1, h1.2, h2.1, h2.2⟩, p ι1 H1 _ st mo1 src_range⟩
        · cases hh
      · cases hh
    · rename_i x m2 hh
      split at hh <;> first | (cases hh; done) | (split at hh <;> cases hh)
    · exact p.elim
end
end DL
set_option Elab.async false
set_option linter.all false
set_option maxRecDepth 100000
set_option maxHeartbeats 2000000
namespace DL
open PySem PySem.Spec PyProof.Rows L2
/-! ### sorted -/
section
variable {prog : Program} {w : World} {A : Around} {E : Value → Shared → Prop} {s : Shared}
theorem collect_seqT {l : Addr} {T : String} {o : Obj} {vs : List Value} {n : Nat} {Q : List Value → Shared → Prop} (hT : T = "list" ∨ T = "tuple") (ho : s.heap.get? l = some o) (hc : o.cls = .type T) (hd : o.data = .seq vs.toArray n)
    (h : Q vs { s with heap := (s.heap.push (seqObj "list" #[] 0)).update s.heap.objs.size (Obj.mapSeq (· ++ vs.toArray)) }) (hsz : vs.length ≤ sizeLine) :
    wpAny (model prog w) A (collect (.ref l)) Q E s := by
  unfold collect
  refine wpAny_bind (wpAny_runValue (codeAny_builtin entry_proto_collect' ?_))
  show wpAny _ _ (do again (.builtin "list.__iadd__" ⟨[← newList [], .ref l], []⟩)) _ _ s
  refine wpAny_bind (wpAny_newList (wpAny_pure ⟨Code.quiet_builtin _ (by decide +kernel), codeAny_builtin entry_list_iadd' ?_⟩))
  show wpAny _ _ (Builtin.List.listExtendWith (.ref s.heap.objs.size) (.ref l) (.ref s.heap.objs.size)) _ _ { s with heap := s.heap.push (seqObj "list" #[] 0) }
  unfold Builtin.List.listExtendWith
  have ho' : (s.heap.push (seqObj "list" #[] 0)).get? l = some o := Heap.get?_push_of_some _ ho
  refine wpAny_bind (wpAny_typeOf (T := T) ⟨o, ho', hc⟩ ?_)
  rw [if_pos (by rcases hT with e | e <;> (subst e; simp))]
  refine wpAny_bind (listItems_at ho' hd ?_)
  refine wpAny_bind (listItems_at (xs := #[]) (n := 0) (Heap.get?_push_size _ rfl) rfl ?_)
  rw [if_neg (by simp)]
  refine wpAny_bind (listUpdate_at (xs := #[]) (n := 0) (Heap.get?_push_size _ rfl) rfl ?_ (Nat.zero_le _)
    (by show (#[] ++ vs.toArray).size ≤ sizeLine + 1; simp only [Array.size_append, List.size_toArray, List.length_nil]; omega))
  refine wpAny_pure ?_
  show wpAny (model prog w) A (do
      let o ← load s.heap.objs.size
      match o.data with
      | .seq ys _ => pure ys.toList
      | _ => unsupported "internal:collect") Q E { s with heap := (s.heap.push (seqObj "list" #[] 0)).update s.heap.objs.size (Obj.mapSeq (· ++ vs.toArray)) }
  refine wpAny_bind (wpAny_load (get?_update_seq (Heap.get?_push_size _ rfl) _) ?_)
  show wpAny _ _ (pure ((#[] : Array Value) ++ vs.toArray).toList) Q E _
  rw [show ((#[] : Array Value) ++ vs.toArray).toList = vs by simp]
  exact wpAny_pure h
/-- sorted of a list or a tuple, keys of one kind -/
theorem sortedKT {κ : PyProof.Rows.KeyKind} (hO : κ.OneLt) {l : Addr} {T : String} {o : Obj} {vs : List Value} {n : Nat} {Q : Value → Shared → Prop} (hT : T = "list" ∨ T = "tuple") (ho : s.heap.get? l = some o) (hc : o.cls = .type T) (hd : o.data = .seq vs.toArray n)
    (h0 : KeysOf κ (pairsOf vs)) (hkk : ∀ v₁ v₂ rest, vs = v₁ :: v₂ :: rest → keyKind' (v₁ :: v₂ :: rest).toArray = pure oneType') (hL : vs.length ≤ sizeLine)
    (h : ∀ st' : SortSt, (arrOf st').Perm (pairsOf vs) → SortedToK κ (arrOf st') (pairsOf vs).size → Q (.ref (s.heap.objs.size + 1)) { s with heap := sortedAll s.heap vs ((arrOf st').map (·.2)) }) :
    wpAny (model prog w) A (call (.builtin "sorted") [.ref l]) Q E s := by
  refine Calls.call_function_entry kind_sorted plain_sorted entry_sorted (args_sorted1 _) ?_
  unfold Builtin.«sorted»
  refine wpAny_bind (m := checkCount "sorted" 1 1 _) (wpAny_pure ?_)
  refine wpAny_bind (collect_seqT hT ho hc hd ?_ hL)
  refine wpAny_bind (wpAny_newList ?_)
  have hsz : ((s.heap.push (seqObj "list" #[] 0)).update s.heap.objs.size (Obj.mapSeq (· ++ vs.toArray))).objs.size = s.heap.objs.size + 1 := by
    rw [Heap.size_update, size_push']
  have hoL : (((s.heap.push (seqObj "list" #[] 0)).update s.heap.objs.size (Obj.mapSeq (· ++ vs.toArray))).push (seqObj "list" vs.toArray 0)).get? (s.heap.objs.size + 1) = some (seqObj "list" vs.toArray 0) := by
    rw [← hsz]; exact Heap.get?_push_size _ rfl
  show wpAny _ _ _ _ _ { s with heap := ((s.heap.push (seqObj "list" #[] 0)).update s.heap.objs.size (Obj.mapSeq (· ++ vs.toArray))).push (seqObj "list" vs.toArray 0) }
  rw [hsz]
  refine wpAny_bind (wpAny_holding (wpAny_call_entry slot_list_sort ⟨_, hoL, rfl⟩ entry_list_sort (list_sort_treeKAny hO hoL h0 hkk hL fun st' a1 a2 => ⟨_, rfl, ?_⟩) (args_list_sort _)))
  exact wpAny_pure ⟨_, rfl, h st' a1 a2⟩
end
def leS (a b : Str) : Bool := decide (a.cps.toList ≤ b.cps.toList)
def leI (a b : Int) : Bool := decide (a ≤ b)
def strsW : List Wd → Option (List Str)
  | [] => some []
  | .d (.str b) :: r => (strsW r).map (b :: ·)
  | _ :: _ => none
def intsW : List Wd → Option (List Int)
  | [] => some []
  | .d (.int b) :: r => (intsW r).map (b :: ·)
  | _ :: _ => none
def sortO : OpN := fun ws m => match ws with
  | [w] => match seqOf m w with
    | some xs => match strsW xs with
      | some ss => some (.ref m.cells.length, m.push (.lst ((ss.mergeSort leS).map fun x => .d (.str x))))
      | none => match intsW xs with
        | some ns => some (.ref m.cells.length, m.push (.lst ((ns.mergeSort leI).map fun x => .d (.int x))))
        | none => none
    | none => none
  | _ => none
theorem str_ext {a b : Str} (h : a.cps.toList = b.cps.toList) : a = b := by
  cases a; cases b; simp only [Str.mk.injEq]; exact Array.toList_inj.mp h
theorem leS_trans (a b c : Str) (h : leS a b = true) (h2 : leS b c = true) : leS a c = true := decide_eq_true (List.le_trans (of_decide_eq_true h) (of_decide_eq_true h2))
theorem leS_total (a b : Str) : (leS a b || leS b a) = true := by
  rw [Bool.or_eq_true]
  exact (List.le_total a.cps.toList b.cps.toList).imp decide_eq_true decide_eq_true
theorem sortedS_pair : ∀ {l : List Str}, sortedS l = true → l.Pairwise fun a b => leS a b = true
  | [], _ => .nil
  | x :: r, h => by
    have step : ∀ (r : List Str) (x : Str), risingS x r = true → (∀ y ∈ r, leS x y = true) ∧ r.Pairwise fun a b => leS a b = true := by
      intro r
      induction r with
      | nil =>
        intro x _
        exact ⟨fun _ h => (nomatch h), List.Pairwise.nil⟩
      | cons y r ih =>
        intro x h
        have h' : (!ltCps y.cps.toList x.cps.toList && risingS y r) = true := h
        rw [Bool.and_eq_true, PyProof.Rows.ltCps_eq] at h'
        have hxy : leS x y = true := by
          refine decide_eq_true (List.not_lt.mp ?_)
          have := h'.1
          simpa using this
        obtain ⟨a1, a2⟩ := ih y h'.2
        refine ⟨fun z hz => ?_, List.pairwise_cons.mpr ⟨a1, a2⟩⟩
        rcases List.mem_cons.mp hz with e | hz
        · rw [e]; exact hxy
        · exact leS_trans x y z hxy (a1 z hz)
    obtain ⟨a1, a2⟩ := step r x h
    exact List.pairwise_cons.mpr ⟨a1, a2⟩
theorem sortS_unique {xs ys : List Str} (hp : ys.Perm xs) (hs : sortedS ys = true) : ys = xs.mergeSort leS :=
  List.Perm.eq_of_pairwise (le := fun a b => leS a b = true) (fun a b _ _ h h' => str_ext (List.le_antisymm (of_decide_eq_true h) (of_decide_eq_true h'))) (sortedS_pair hs) (List.pairwise_mergeSort leS_trans leS_total xs) (hp.trans (List.mergeSort_perm xs leS).symm)
theorem leI_trans (a b c : Int) (h : leI a b = true) (h2 : leI b c = true) : leI a c = true := decide_eq_true (Int.le_trans (of_decide_eq_true h) (of_decide_eq_true h2))
theorem leI_total (a b : Int) : (leI a b || leI b a) = true := by
  rw [Bool.or_eq_true]
  exact (Int.le_total a b).imp decide_eq_true decide_eq_true
theorem sortI_unique {xs ys : List Int} (hp : ys.Perm xs) (hs : ys.Pairwise (· ≤ ·)) : ys = xs.mergeSort leI :=
  List.Perm.eq_of_pairwise (le := fun a b => leI a b = true) (fun a b _ _ h h' => Int.le_antisymm (of_decide_eq_true h) (of_decide_eq_true h')) (hs.imp fun h => decide_eq_true h)
    (List.pairwise_mergeSort leI_trans leI_total xs) (hp.trans (List.mergeSort_perm xs leI).symm)
section
variable {K : PySem.W.Frag} {W : L2.WX} {ι ι0 : List Addr} {H H0 : Hp} {env : Env} {σ : L2.St} {m : Mm} {X : Cx}
theorem seq_obj {pins : List (Addr × Obj)} {s : Shared} {a : Addr} {xs : List V} (I : L2.Inv X pins σ H s) (h : SqL X.K H a xs ∨ SqT X.K H a xs) :
    ∃ (T : String) (o : Obj) (its : List Value) (n : Nat), (T = "list" ∨ T = "tuple") ∧ s.heap.get? a = some o ∧ o.cls = .type T ∧ o.data = .seq its.toArray n ∧ Vals xs its ∧ xs.length ≤ sizeLine := by
  rcases h with h | h
  · obtain ⟨its, r, ⟨o, n, h1, h2, h3, h4⟩, hz⟩ := I.list h
    exact ⟨"list", o, its, n, .inl rfl, h1, h2, h4, r, hz⟩
  · obtain ⟨its, r, ⟨o, h1, h2, n, h4⟩, hz⟩ := I.tuple h
    exact ⟨"tuple", o, its, n, .inr rfl, h1, h2, h4, r, hz⟩
theorem c_sortS : CallR X (.builtin "sorted") (fun vs H Q => ∃ (a : Addr) (xs : List Str), vs = [V.ref a] ∧ (SqL X.K H a (xs.map V.str) ∨ SqT X.K H a (xs.map V.str)) ∧ ∀ p, H p = none → Q (.ref p) (upd H p (.lst ((xs.mergeSort leS).map V.str)))) := by
  intro pins s σ H vs us Q I r h
  obtain ⟨a, xs, rfl, hs, q⟩ := h
  rw [Vals.ref1 r]
  obtain ⟨T, o, its, n, hT, ho, hc, hd, rv, hz⟩ := seq_obj I hs
  have hz' : its.length ≤ sizeLine := by rw [← rv.length]; exact hz
  refine sortedKT strKind_oneLt hT ho hc hd rv.strs.keysOf (fun v₁ v₂ rest e => keyKind_strs (by rw [← e]; exact rv.strs)) hz' fun st' h1 h2 => ?_
  obtain ⟨ys, g1, g2, g3⟩ := sorted_out_str rv.strs h1 h2
  obtain ⟨ep, he'⟩ := PyProof.Rows.sortedAll_at s.heap its ((arrOf st').map (·.2))
  have e := sortS_unique g2 g3
  subst e
  have hlen : ((xs.mergeSort leS).map V.str).length ≤ sizeLine := by rw [List.length_map, g2.length_eq]; rw [List.length_map] at hz; exact hz
  exact ⟨.ref _, _, I.laid (o := .lst ((xs.mergeSort leS).map V.str)) (t' := s.toks) (fun _ _ => PyProof.Rows.sortedAll_old) (Nat.le_succ _) ⟨hlen, _, ep, vals_of_strs g1, he'⟩, rfl, q _ (I.hok.fresh (Nat.le_succ _))⟩
theorem c_sortI : CallR X (.builtin "sorted") (fun vs H Q => ∃ (a : Addr) (xs : List Int), vs = [V.ref a] ∧ (SqL X.K H a (xs.map V.int) ∨ SqT X.K H a (xs.map V.int)) ∧ ∀ p, H p = none → Q (.ref p) (upd H p (.lst ((xs.mergeSort leI).map V.int)))) := by
  intro pins s σ H vs us Q I r h
  obtain ⟨a, xs, rfl, hs, q⟩ := h
  rw [Vals.ref1 r]
  obtain ⟨T, o, its, n, hT, ho, hc, hd, rv, hz⟩ := seq_obj I hs
  have hz' : its.length ≤ sizeLine := by rw [← rv.length]; exact hz
  refine sortedKT intKind_oneLt hT ho hc hd rv.ints.keysOfInt (fun v₁ v₂ rest e => keyKind_ints (by rw [← e]; exact rv.ints)) hz' fun st' h1 h2 => ?_
  obtain ⟨ys, g1, g2, g3⟩ := sorted_out rv.ints h1 (sortedTo_of_int h2)
  obtain ⟨ep, he'⟩ := PyProof.Rows.sortedAll_at s.heap its ((arrOf st').map (·.2))
  have e := sortI_unique g2 g3
  subst e
  have hlen : ((xs.mergeSort leI).map V.int).length ≤ sizeLine := by rw [List.length_map, g2.length_eq]; rw [List.length_map] at hz; exact hz
  exact ⟨.ref _, _, I.laid (o := .lst ((xs.mergeSort leI).map V.int)) (t' := s.toks) (fun _ _ => PyProof.Rows.sortedAll_old) (Nat.le_succ _) ⟨hlen, _, ep, vals_of_ints g1, he'⟩, rfl, q _ (I.hok.fresh (Nat.le_succ _))⟩
theorem strs_ok : ∀ {ws : List Wd} {vs : List V} {bs : List Str}, RelWs K ι H ws vs → strsW ws = some bs → vs = bs.map V.str
  | [], _, _, .nil, h => by cases h; rfl
  | w :: r, _, _, .cons ra rr, h => by
    unfold strsW at h
    split at h
    · rename_i e
      cases e
    · rename_i b r' e
      cases e
      obtain ⟨bs, h1, h2⟩ := Option.map_eq_some_iff.mp h
      subst h2
      rw [relW_str ra, strs_ok rr h1]; rfl
    · cases h
theorem ints_ok : ∀ {ws : List Wd} {vs : List V} {bs : List Int}, RelWs K ι H ws vs → intsW ws = some bs → vs = bs.map V.int
  | [], _, _, .nil, h => by cases h; rfl
  | w :: r, _, _, .cons ra rr, h => by
    unfold intsW at h
    split at h
    · rename_i e
      cases e
    · rename_i b r' e
      cases e
      obtain ⟨bs, h1, h2⟩ := Option.map_eq_some_iff.mp h
      subst h2
      rw [relW_int ra, ints_ok rr h1]; rfl
    · cases h
theorem relStrs : ∀ (ss : List Str), RelWs K ι H (ss.map fun x => .d (.str x)) (ss.map V.str)
  | [] => .nil
  | x :: r => .cons (.d (.str x)) (relStrs r)
theorem relInts : ∀ (ss : List Int), RelWs K ι H (ss.map fun x => .d (.int x)) (ss.map V.int)
  | [] => .nil
  | x :: r => .cons (.d (.int x)) (relInts r)
theorem o_sorted : CallR X (.builtin "sorted") (rON X.K sortO) := by
  refine CallRimp (CallR.or c_sortS c_sortI) fun xs H Q ⟨ι, m, ws, mo, ra, p⟩ => ?_
  unfold sortO at p
  split at p
  · rename_i w
    split at p
    · rename_i ys e
      obtain ⟨v, rfl, r⟩ := vals_one ra
      obtain ⟨a1, vs, rfl, h, rv⟩ := seqOf_ok mo e r
      split at p
      · rename_i ss hs
        have := strs_ok rv hs
        subst this
        exact .inl ⟨a1, ss, rfl, h, fun q hq => let ⟨a, b⟩ := cell_new mo hq (relStrs (ss.mergeSort leS)); p _ _ _ (stp_new hq) a b⟩
      · split at p
        · rename_i ns hs
          have := ints_ok rv hs
          subst this
          exact .inr ⟨a1, ns, rfl, h, fun q hq => let ⟨a, b⟩ := cell_new mo hq (relInts (ns.mergeSort leI)); p _ _ _ (stp_new hq) a b⟩
        · exact p.elim
    · exact p.elim
  · exact p.elim
/-! ### defs and the law -/
theorem d_fn {P : Program} {w : World} {mg : Str → Option Value} {base : Heap} {x qual : Str} {params : Arguments} {body : List Stmt} {scope : Scope} {f : Addr} {fd : FuncData} {N ps : List Str} {k n j : Nat} {b : Sm} (F : FunD K x qual params body scope [] [] f fd) (S : FnScope N ps scope) (hN : N.length = n) (hj : ps.length = j)
    (hb : ∀ (cdv : Value) (A : Around) (outer : List PySem.Env) (s : Shared) (H : Hp) (E : XK), Room k (A.deeper (envOfC qual scope s.heap.objs.size f cdv)) → Takes (cxOf (L2.CX P w) P w K mg base N qual scope f cdv A outer s H E) (fun cls d _ H => E cls d H) →
      PassesOwn (model P w) (A.deeper (envOfC qual scope s.heap.objs.size f cdv)) (envOfC qual scope s.heap.objs.size f cdv) (cxOf (L2.CX P w) P w K mg base N qual scope f cdv A outer s H E).xe →
      PSs (cxOf (L2.CX P w) P w K mg base N qual scope f cdv A outer s H E) body (tS K (fun cls d _ H => E cls d H) b)) : FnOk P w K mg base (L2.CX P w) (k + 1) f fd ps (spD K j (runF n b)) :=
  F.ok S (fun vs H Q E h => by obtain ⟨_, _, _, hl, _⟩ := h; exact hl.trans hj.symm) fun cdv A outer s H vs Q E hr h =>
    ⟨_, hb cdv A outer s H E hr (takes_of rfl rfl rfl rfl) (passes_of rfl), fn_start hN h⟩
theorem rol_only {a : Addr} {xs : List V} (hO : Only H) (h : SqL K H a xs) : Rol K H a xs := by
  rcases h with (h | ⟨o, h⟩) | h
  · rcases hO a with z | ⟨o, ys, z⟩
    · rw [z] at h; cases h
    · rw [z] at h; cases h
  · exact .inl ⟨o, h⟩
  · exact .inr h
def scriptW (ns : List Int) : Wd := .rol (ns.map fun i => .d (.int i))
theorem law_end {a : Addr} {ns : List Int} {F : Fn} {m' : Mm} (hO : Only H) (h : SqL K H a (ns.map V.int)) (hF : F [scriptW ns] ⟨[], []⟩ = .ok (.d (.bool true)) m') : spD K 1 F [.ref a] H (fun v _ => v = .bl true) fun _ _ _ => False := by
  refine ⟨[], ⟨[], []⟩, [scriptW ns], rfl, ⟨rfl, .nil, fun n a c h1 => by simp at h1, (fun _ h => nomatch h), .nil, (fun _ h => nomatch h)⟩, .cons (.rol (rol_only hO h) (relInts ns)) .nil, ?_⟩
  rw [hF]
  exact fun ι' H' b st mo r => relW_bl r
end
end DL
set_option Elab.async false
set_option linter.all false
set_option maxRecDepth 100000
set_option maxHeartbeats 2000000
namespace DL
open PySem PySem.Spec PyProof.Rows L2
/-! ### a module's constants, as data -/
mutual
def datU (K : PySem.W.Frag) : PyData → Value → Bool
  | .none, u => (match u with | .none => true | _ => false)
  | .bool b, u => (match u with | .bool c => b == c | _ => false)
  | .int i, u => (match u with | .int j _ => decide (i = j) | _ => false)
  | .str x, u => (match u with | .str y _ => decide (x = y) | _ => false)
  | .tuple ds, u => (match u with
    | .ref a => (match K.lookup a with
      | some ⟨.type c, _, .seq its _, _⟩ => decide (c = "tuple") && decide (its.size ≤ sizeLine) && datUs K ds its.toList
      | _ => false)
    | _ => false)
  | _, _ => false
def datUs (K : PySem.W.Frag) : List PyData → List Value → Bool
  | [], us => us.isEmpty
  | d :: ds, us => (match us with | u :: r => datU K d u && datUs K ds r | [] => false)
end
mutual
theorem datU_ok {K : PySem.W.Frag} : ∀ {d : PyData} {u : Value}, datU K d u = true → ∃ v, RelV v u ∧ ∀ H, RelD K H d v
  | .none, u, h => by
    cases u <;> first | cases h; done | exact ⟨.non, rfl, fun _ => .non⟩
  | .bool b, u, h => by
    cases u with
    | bool c =>
      have e : b = c := eq_of_beq (show (b == c) = true from h)
      exact ⟨.bl b, by rw [e]; rfl, fun _ => .bl b⟩
    | _ => cases h
  | .int i, u, h => by
    cases u with
    | int j t => exact ⟨.int i, ⟨t, by rw [of_decide_eq_true (show decide (i = j) = true from h)]⟩, fun _ => .int i⟩
    | _ => cases h
  | .str x, u, h => by
    cases u with
    | str j t => exact ⟨.str x, ⟨t, by rw [of_decide_eq_true (show decide (x = j) = true from h)]⟩, fun _ => .str x⟩
    | _ => cases h
  | .tuple ds, u, h => by
    cases u with
    | ref a =>
      have h' : (match K.lookup a with
        | some ⟨.type c, _, .seq its _, _⟩ => decide (c = "tuple") && decide (its.size ≤ sizeLine) && datUs K ds its.toList
        | _ => false) = true := h
      cases q : K.lookup a with
      | none => rw [q] at h'; cases h'
      | some o =>
        obtain ⟨oc, od, dt, osl⟩ := o
        rw [q] at h'
        cases oc with
        | type c =>
          cases dt with
          | seq its n =>
            have h2 : (decide (c = "tuple") && decide (its.size ≤ sizeLine) && datUs K ds its.toList) = true := h'
            rw [Bool.and_eq_true, Bool.and_eq_true] at h2
            obtain ⟨vs, r, rd⟩ := datUs_ok h2.2
            have hc : c = "tuple" := of_decide_eq_true h2.1.1
            subst hc
            exact ⟨.ref a, rfl, fun H => .tup (.inr ⟨_, its, n, q, rfl, rfl, of_decide_eq_true h2.1.2, r⟩) (rd H)⟩
          | _ => cases h'
        | _ => cases dt <;> cases h'
    | _ => cases h
  | .list _, _, h => by cases h
  | .dict _, _, h => by cases h
theorem datUs_ok {K : PySem.W.Frag} : ∀ {ds : List PyData} {us : List Value}, datUs K ds us = true → ∃ vs, Vals vs us ∧ ∀ H, RelDs K H ds vs
  | [], us, h => by
    cases us with
    | nil => exact ⟨[], .nil, fun _ => .nil⟩
    | cons _ _ => cases h
  | d :: ds, us, h => by
    cases us with
    | nil => cases h
    | cons u r =>
      have h' : (datU K d u && datUs K ds r) = true := h
      rw [Bool.and_eq_true] at h'
      obtain ⟨v, r1, d1⟩ := datU_ok h'.1
      obtain ⟨vs, r2, d2⟩ := datUs_ok h'.2
      exact ⟨v :: vs, .cons r1 r2, fun H => .cons (d1 H) (d2 H)⟩
end
def conF (K : PySem.W.Frag) (p : Str × PyData) : Bool := match PySem.W.nsIn K mainGlobals p.1 with
  | some (some u) => datU K p.2 u
  | _ => false
/-- the module's name x stands for the data d -/
def Con (K : PySem.W.Frag) (mg : Str → Option Value) (x : Str) (d : PyData) : Prop := ∃ u v, mg x = some u ∧ RelV v u ∧ ∀ H, RelD K H d v
theorem conF_ok {K : PySem.W.Frag} {h : Heap} {mg : Str → Option Value} (X : K.In h) (G : h.Ns mainGlobals mg) {x : Str} {d : PyData} (c : conF K (x, d) = true) : Con K mg x d := by
  unfold conF at c
  cases e : PySem.W.nsIn K mainGlobals x with
  | none => rw [e] at c; cases c
  | some o =>
    cases o with
    | none => rw [e] at c; cases c
    | some u =>
      rw [e] at c
      obtain ⟨v, r, rd⟩ := datU_ok c
      exact ⟨u, v, PySem.W.mg_of X G e, r, rd⟩
theorem de_K {X : Cx} {W : L2.WX} {x : Str} {d : PyData} {pos : Pos} (hg : Gl X x) (h : Con X.K X.mg x d) (hd : (x == ("__debug__" : Str)) = false := by decide) : PE X (.Name x pos) (tE X.K W (eC (.d d))) := by
  obtain ⟨u, v, hm, r, rd⟩ := h
  exact de_G hg hm r (fun ι H => .d (rd H)) hd
/-! ### the head's hook: defs, facts, constants, one more look -/
abbrev AlQ : Type := He.AlD × Bool
structure SaysQ (fa : List He.Fa) (fn : List He.DefD) (cs : List (Str × PyData)) (ex : PySem.W.Frag → Bool) (K : PySem.W.Frag) : Prop where
  d : He.SaysD fa fn K
  c : cs.all (conF K) = true
  x : ex K = true
def obsQ (n : Nat) (fa : List He.Fa) (fn : List He.DefD) (cs : List (Str × PyData)) (ex : PySem.W.Frag → Bool) (g : Addr → Option Obj) : AlQ :=
  (He.obsDG n fa fn g, cs.all (conF (He.frG g (He.asD g n))) && ex (He.frG g (He.asD g n)))
def hookQ (n : Nat) (fa : List He.Fa) (fn : List He.DefD) (cs : List (Str × PyData)) (ex : PySem.W.Frag → Bool) : PySem.W.Hook where
  α := AlQ
  obs := fun s => obsQ n fa fn cs ex s.heap.get?
  val := fun _ => (He.valD fn, true)
  says := fun _ h => ∃ K : PySem.W.Frag, K.In h ∧ SaysQ fa fn cs ex K
  of := fun w s e => by
    have e1 : He.obsDG n fa fn s.heap.get? = He.valD fn := congrArg (·.1) e
    have e2 : (cs.all (conF (He.frG s.heap.get? (He.asD s.heap.get? n))) && ex (He.frG s.heap.get? (He.asD s.heap.get? n))) = true := congrArg (·.2) e
    rw [Bool.and_eq_true] at e2
    exact ⟨_, He.frG_in, e1, e2.1, e2.2⟩
  keeps := fun _ _ _ ⟨K, hK, c⟩ k => ⟨K, PySem.W.Frag.In.keeps hK k, c⟩
theorem obsQ_eq {n : Nat} {fa : List He.Fa} {fn : List He.DefD} {cs : List (Str × PyData)} {ex : PySem.W.Frag → Bool} {g : Addr → Option Obj} {s : Shared} (h : ∀ a, g a = s.heap.get? a) : obsQ n fa fn cs ex g = (hookQ n fa fn cs ex).obs s := by
  have e : g = s.heap.get? := funext h
  rw [e] <;> rfl
theorem SaysQ.con {fa : List He.Fa} {fn : List He.DefD} {cs : List (Str × PyData)} {ex : PySem.W.Frag → Bool} {K : PySem.W.Frag} {h : Heap} {mg : Str → Option Value} (X : K.In h) (G : h.Ns mainGlobals mg) (c : SaysQ fa fn cs ex K) (i : Nat) {x : Str} {d : PyData} (e : cs[i]? = some (x, d) := by rfl) : Con K mg x d :=
  conF_ok X G (List.all_eq_true.mp c.c _ (List.mem_of_getElem? e))
/-! ### a dict by a comprehension -/
def keyOf : PyData → Option Key
  | .int i => some (.inl i)
  | .str x => some (.inr x)
  | _ => none
theorem keyOf_ok {d : PyData} {k : Key} (h : keyOf d = some k) : d = keyD k := by
  unfold keyOf at h
  split at h <;> first | (cases h; rfl) | cases h
theorem keyOf_D (k : Key) : keyOf (keyD k) = some k := by cases k <;> rfl
theorem keyD_inj {a b : Key} (h : keyD a = keyD b) : a = b := by
  have := congrArg keyOf h
  rw [keyOf_D, keyOf_D] at this
  exact Option.some.inj this
/-- d[k] = w -/
def putW (d : List (PyData × Wd)) (k : Key) (w : Wd) : List (PyData × Wd) :=
  if (d.any fun p => decide (keyOf p.1 = some k)) = true then d.map (fun p => if keyOf p.1 = some k then (p.1, w) else p) else d ++ [(keyD k, w)]
def keyW : Wd → Option Key
  | .d x => keyOf x
  | _ => none
noncomputable def dcL (t : Tg) (c : Em Bool) (fk fv : Em Wd) (gd : Gd) (env : Env) : List Wd → List (PyData × Wd) → Mm → Rs (List (PyData × Wd))
  | [], acc, m => if gdOk gd m = true then .ok acc m else .stuck
  | w :: ws, acc, m => if gdOk gd m = true then (match t.put w env with
    | none => .stuck
    | some e => (c e m).bind fun b m => if b = true then (fk e m).bind fun k m => (fv e m).bind fun x m => (match keyW k with
      | some k => if acc.length < LIM then dcL t c fk fv gd env ws (putW acc k x) m else .stuck
      | none => .stuck) else dcL t c fk fv gd env ws acc m) else .stuck
noncomputable def eDc (s : Em (List Wd × Gd)) (t : Tg) (c : Em Bool) (fk fv : Em Wd) (own : List Nat) : Em Wd := fun env m => (s env m).bind fun p m => match dcL t c fk fv p.2 (forget own env) p.1 [] m with
  | .ok xs m => .ok (.ref m.cells.length) (m.push (.dct xs))
  | _ => .stuck
section
variable {K : PySem.W.Frag} {W : L2.WX} {ι ι' ι0 : List Addr} {H H' H0 : Hp} {env : Env} {σ : L2.St} {m : Mm} {X : Cx}
theorem KvOk.length : ∀ {d : List (PyData × Wd)} {v : List (Key × V)}, KvOk K ι H d v → d.length = v.length
  | [], [], _ => rfl
  | (_, _) :: _, (_, _) :: _, ⟨_, _, h3⟩ => congrArg (· + 1) (KvOk.length h3)
  | [], _ :: _, h => h.elim
  | _ :: _, [], h => h.elim
theorem kv_any {k : Key} : ∀ {d : List (PyData × Wd)} {ks : List (Key × V)}, KvOk K ι H d ks → (d.any fun p => decide (keyOf p.1 = some k)) = ks.any fun kv => decide (kv.1 = k)
  | [], [], _ => rfl
  | (x, _) :: _, (k', _) :: _, ⟨h1, _, h3⟩ => by
    rw [List.any_cons, List.any_cons, kv_any h3]
    congr 1
    show decide (keyOf x = some k) = decide (k' = k)
    rw [h1, keyOf_D]
    simp
  | [], _ :: _, h => h.elim
  | _ :: _, [], h => h.elim
theorem kv_map {k : Key} {w : Wd} {v : V} (r : RelW K ι H w v) : ∀ {d : List (PyData × Wd)} {ks : List (Key × V)}, KvOk K ι H d ks → KvOk K ι H (d.map (fun p => if keyOf p.1 = some k then (p.1, w) else p)) (ks.map fun kv => if kv.1 = k then (kv.1, v) else kv)
  | [], [], _ => True.intro
  | (x, u) :: d, (k', v') :: ks, ⟨h1, h2, h3⟩ => by
    rw [List.map_cons, List.map_cons]
    by_cases e : k' = k
    · rw [if_pos (show keyOf x = some k by rw [h1, keyOf_D, e]), if_pos e]
      exact ⟨h1, r, kv_map r h3⟩
    · rw [if_neg (show ¬ keyOf x = some k by rw [h1, keyOf_D]; exact fun z => e (Option.some.inj z)), if_neg e]
      exact ⟨h1, h2, kv_map r h3⟩
  | [], _ :: _, h => h.elim
  | _ :: _, [], h => h.elim
theorem kv_app {k : Key} {w : Wd} {v : V} (r : RelW K ι H w v) : ∀ {d : List (PyData × Wd)} {ks : List (Key × V)}, KvOk K ι H d ks → KvOk K ι H (d ++ [(keyD k, w)]) (ks ++ [(k, v)])
  | [], [], _ => ⟨rfl, r, True.intro⟩
  | (_, _) :: _, (_, _) :: _, ⟨h1, h2, h3⟩ => ⟨h1, h2, kv_app r h3⟩
  | [], _ :: _, h => h.elim
  | _ :: _, [], h => h.elim
theorem kv_put {k : Key} {w : Wd} {v : V} {d : List (PyData × Wd)} {ks : List (Key × V)} (r : RelW K ι H w v) (h : KvOk K ι H d ks) : KvOk K ι H (putW d k w) (putK ks k v) := by
  unfold putW putK
  rw [kv_any h]
  split
  · exact kv_map r h
  · exact kv_app r h
theorem kept_updD {D : Addr} {xs ys : List (Key × V)} (hD : H D = some (.dK xs)) : Kept K ι H ι (upd H D (.dK ys)) where
  pre := List.prefix_refl _
  tup := fun a zs h => by
    rcases h with h | h
    · have n : a ≠ D := fun e => by
        subst e
        rcases h with h | ⟨o, h⟩
        · rw [hD] at h; cases h
        · rw [hD] at h; cases h
      rcases h with h | ⟨o, h⟩
      · exact .inl (.inl (by rw [upd_ne n]; exact h))
      · exact .inl (.inr ⟨o, by rw [upd_ne n]; exact h⟩)
    · exact .inr h
  rol := fun a zs h => by
    rcases h with ⟨o, h⟩ | h
    · have n : a ≠ D := fun e => by rw [e, hD] at h; cases h
      exact .inl ⟨o, by rw [upd_ne n]; exact h⟩
    · exact .inr h
theorem MemOk.updD {D : Addr} {xs ys : List (Key × V)} (mo : MemOk K ι m H) (hD : H D = some (.dK xs)) (hn : D ∉ ι) : MemOk K ι m (L2.upd H D (.dK ys)) :=
  ⟨mo.len, mo.nd, fun n a c h1 h2 => (mo.cell n a c h1 h2).keep (kept_updD hD) (upd_ne fun e => hn (by rw [← e]; exact List.mem_of_getElem? h1)), mo.top, mo.ord, mo.clean⟩
theorem MemOk.adoptC {D : Addr} {c : Cell} (mo : MemOk K ι m H) (hn : D ∉ ι) (hc : CellOk K (ι ++ [D]) H D c) : MemOk K (ι ++ [D]) (m.push c) H := by
  refine ⟨by simp [Mm.push, mo.len], ?_, fun n a c' h1 h2 => ?_, fun q hq => ?_, mo.ord, fun q hq n c' hlt hd hc' => ?_⟩
  · rw [List.nodup_append]
    exact ⟨mo.nd, by simp, fun a ha b hb e => hn (by rw [List.mem_singleton.mp hb] at e; rw [← e]; exact ha)⟩
  · by_cases hlt : n < ι.length
    · rw [List.getElem?_append_left hlt] at h1
      have h2' : m.cells[n]? = some c' := by
        have : (m.cells ++ [c])[n]? = some c' := h2
        rwa [List.getElem?_append_left (by rw [← mo.len]; exact hlt)] at this
      exact (mo.cell n a c' h1 h2').keep kept_more rfl
    · have hl := get_of h1
      rw [List.length_append, List.length_singleton] at hl
      have e : n = ι.length := by omega
      subst e
      have e1 : a = D := by simpa using h1.symm
      have e2 : c' = c := by
        have : (m.cells ++ [c])[ι.length]? = some c' := h2
        rw [mo.len] at this
        simpa using this.symm
      subst e1; subst e2
      exact hc
  · have := mo.top q hq
    show q.1 ≤ (m.cells ++ [c]).length
    rw [List.length_append]; omega
  · have ht := mo.top q hq
    have h2 : (m.cells ++ [c])[n]? = some c' := hc'
    rw [List.getElem?_append_left (by omega)] at h2
    exact mo.clean q hq n c' hlt hd h2
theorem keyW_ok {w : Wd} {v : V} {k : Key} (r : RelW K ι H w v) (h : keyW w = some k) : v = kV k := by
  unfold keyW at h
  split at h
  · rename_i x
    have e := keyOf_ok h
    subst e
    cases k with
    | inl i => exact relW_int r
    | inr x => exact relW_str r
  · cases h
theorem post_dc {s : Em (List Wd × Gd)} {t : Tg} {g : TG} {c : Em Bool} {fk fv : Em Wd} {own : List Nat} {Q : VK} (hk : GtOk K t g) (hsub : ∀ i ∈ t.slots, i ∈ own) (h : tE K W (eDc s t c fk fv own) σ H Q) : tDc (tI K W s) g (tT K W0 c) (tE K W0 fk) (tE K W0 fv) own σ H Q := by
  obtain ⟨ι, env, m, eo, mo, p⟩ := h
  refine ⟨ι, env, m, eo, mo, ?_⟩
  have p' : Post K W (RelW K) ι H σ Q ((s env m).bind fun p m => match dcL t c fk fv p.2 (forget own env) p.1 [] m with
    | .ok xs m => .ok (.ref m.cells.length) (m.push (.dct xs))
    | _ => .stuck) := p
  cases q : s env m with
  | stuck => rw [q] at p'; exact p'.elim
  | exc x m1 => rw [q] at p'; exact p'
  | ok pr m1 =>
    obtain ⟨xs, gd⟩ := pr
    rw [q] at p'
    simp only [Rs.bind_ok] at p'
    intro ι1 H1 J st1 mo1 sr D hD
    have nD1 : D ∉ ι1 := mo1.new hD
    have eo1 : EnvOk K ι1 H1 (forget own env) (wipe σ own) := wipe_env (eo.step mo.apart st1)
    let R : Rs (List (PyData × Wd)) → Prop := fun r => match r with
      | .ok ys m2 => ∀ ι2 H2 vs, Stp ι1 H1 ι2 H2 → MemOk K ι2 m2 H2 → D ∉ ι2 → H2 D = some (.dK vs) → KvOk K ι2 H2 ys vs → Q (.ref D) H2
      | _ => False
    have hR : R (dcL t c fk fv gd (forget own env) xs [] m1) := by
      cases q2 : dcL t c fk fv gd (forget own env) xs [] m1 with
      | ok ys m2 =>
        rw [q2] at p'
        intro ι2 H2 vs s2 mo2 nD e2 r2
        have hs : Stp ι H (ι2 ++ [D]) H2 := by
          have hst := st1.trans s2
          refine ⟨hst.pre.trans (List.prefix_append _ _), fun a ha n => ?_, hst.fix⟩
          rcases List.mem_append.mp ha with z | z
          · exact hst.new a z n
          · rw [List.mem_singleton.mp z] at n ⊢
            cases e : H D with
            | none => rfl
            | some o => rw [st1.fix D o e n] at hD; cases hD
        exact p' (ι2 ++ [D]) H2 (.ref D) hs (mo2.adoptC nD ⟨vs, e2, r2.keep kept_more⟩) (.ref (by rw [← mo2.len]; simp))
      | exc x m2 => rw [q2] at p'; exact p'.elim
      | stuck => rw [q2] at p'; exact p'.elim
    refine ⟨fun i n H' => n = xs.length - i ∧ i ≤ xs.length ∧ ∃ ι' m' acc vacc, Stp ι1 H1 ι' H' ∧ MemOk K ι' m' H' ∧ EnvOk K ι' H' (forget own env) (wipe σ own) ∧ D ∉ ι' ∧ H' D = some (.dK vacc) ∧ KvOk K ι' H' acc vacc ∧ R (dcL t c fk fv gd (forget own env) (xs.drop i) acc m'), ⟨xs.length, by simp, Nat.zero_le _, ι1, m1, [], [], ?_, ?_, ?_, nD1, upd_same, True.intro, hR⟩, ?_⟩
    · exact stp_tup hD
    · exact mo1.stay (ι' := ι1) (stp_tup hD) fun a ha => upd_ne fun e => nD1 (by rw [← e]; exact ha)
    · exact eo1.step mo1.apart (stp_tup hD)
    rintro i n H' ⟨hn, hi', ι', m', acc, vacc, st', mo', eo', nD, eD, ra, hr⟩
    by_cases hlt : i < xs.length
    · rw [List.drop_eq_getElem_cons hlt] at hr
      have hr' : R (if gdOk gd m' = true then (match t.put xs[i] (forget own env) with
        | none => .stuck
        | some e => (c e m').bind fun b m => if b = true then (fk e m).bind fun k m => (fv e m).bind fun x m => (match keyW k with
          | some k => if acc.length < LIM then dcL t c fk fv gd (forget own env) (xs.drop (i + 1)) (putW acc k x) m else .stuck
          | none => .stuck) else dcL t c fk fv gd (forget own env) (xs.drop (i + 1)) acc m) else .stuck) := hr
      by_cases hgd : gdOk gd m' = true
      · rw [if_pos hgd] at hr'
        refine .inr ⟨sr.go i ι' m' H' hlt st' mo' hgd, fun H2 => ∃ ι2 m2 acc vacc, Stp ι1 H1 ι2 H2 ∧ MemOk K ι2 m2 H2 ∧ EnvOk K ι2 H2 (forget own env) (wipe σ own) ∧ D ∉ ι2 ∧ H2 D = some (.dK vacc) ∧ KvOk K ι2 H2 acc vacc ∧ R (dcL t c fk fv gd (forget own env) (xs.drop (i + 1)) acc m2), fun H2 h2 => ⟨xs.length - (i + 1), by omega, rfl, hlt, h2⟩, fun x H2 hy => ?_⟩
        obtain ⟨s2, mo2, r2⟩ := sr.yld i ι' m' H' x H2 xs[i] st' mo' hgd hy (List.getElem?_eq_getElem hlt)
        cases qp : t.put xs[i] (forget own env) with
        | none => rw [qp] at hr'; exact hr'.elim
        | some e =>
          rw [qp] at hr'
          refine hk ι' H2 m' (forget own env) e (wipe σ own) xs[i] x _ mo2 (eo'.step mo'.apart s2) r2 qp fun σ3 s3 => ⟨?_, ?_⟩
          · refine (wipe_same s3.len fun i hi => s3.out i fun z => hi (hsub i z)).trans ?_
            exact wipe_same (by rw [wipe_length]) fun i hi => by rw [wipe_out hi]
          · simp only [] at hr'
            have eD2 : H2 D = some (.dK vacc) := s2.fix D _ eD nD
            refine ⟨ι', e, m', s3.ok, mo2, ?_⟩
            cases qc : c e m' with
            | stuck => rw [qc] at hr'; exact hr'.elim
            | exc x m2 => rw [qc] at hr'; exact hr'.elim
            | ok b m2 =>
              rw [qc] at hr'
              simp only [Rs.bind_ok] at hr'
              intro ι3 H3 b' s4 mo4 eb
              subst eb
              have nD3 : D ∉ ι3 := fun z => by have := s4.new D z nD; rw [eD2] at this; cases this
              have eD3 : H3 D = some (.dK vacc) := s4.fix D _ eD2 nD
              cases b with
              | false =>
                rw [if_neg (by decide)] at hr' ⊢
                exact ⟨ι3, m2, acc, vacc, (st'.trans s2).trans s4, mo4, (eo'.step mo'.apart s2).step mo2.apart s4, nD3, eD3, (ra.step mo'.apart s2).step mo2.apart s4, hr'⟩
              | true =>
                rw [if_pos rfl] at hr' ⊢
                refine ⟨ι3, e, m2, s3.ok.step mo2.apart s4, mo4, ?_⟩
                cases qf : fk e m2 with
                | stuck => rw [qf] at hr'; exact hr'.elim
                | exc x m3 => rw [qf] at hr'; exact hr'.elim
                | ok y m3 =>
                  rw [qf] at hr'
                  simp only [Rs.bind_ok] at hr'
                  intro ι4 H4 v s5 mo5 ry
                  have nD4 : D ∉ ι4 := fun z => by have := s5.new D z nD3; rw [eD3] at this; cases this
                  have eD4 : H4 D = some (.dK vacc) := s5.fix D _ eD3 nD3
                  refine ⟨ι4, e, m3, (s3.ok.step mo2.apart s4).step mo4.apart s5, mo5, ?_⟩
                  cases qg : fv e m3 with
                  | stuck => rw [qg] at hr'; exact hr'.elim
                  | exc x m4 => rw [qg] at hr'; exact hr'.elim
                  | ok z m4 =>
                    rw [qg] at hr'
                    simp only [Rs.bind_ok] at hr'
                    intro ι5 H5 u s6 mo6 rz
                    have nD5 : D ∉ ι5 := fun z => by have := s6.new D z nD4; rw [eD4] at this; cases this
                    have eD5 : H5 D = some (.dK vacc) := s6.fix D _ eD4 nD4
                    have ra5 := (((ra.step mo'.apart s2).step mo2.apart s4).step mo4.apart s5).step mo5.apart s6
                    cases qk : keyW y with
                    | none => rw [qk] at hr'; exact hr'.elim
                    | some k =>
                      rw [qk] at hr'
                      simp only [] at hr'
                      by_cases hl : acc.length < LIM
                      · rw [if_pos hl] at hr'
                        have hl2 : vacc.length < sizeLine := by rw [← ra5.length, ← LIM_eq]; exact hl
                        have kk := kept_updD (K := K) (ι := ι5) (ys := putK vacc k u) eD5
                        refine ⟨vacc, k, keyW_ok ry qk, eD5, hl2, ι5, m4, putW acc k z, putK vacc k u, ?_, mo6.updD eD5 nD5, ?_, nD5, upd_same, kv_put (rz.keep kk) (ra5.keep kk), hr'⟩
                        · have s7 := (((st'.trans s2).trans s4).trans s5).trans s6
                          exact ⟨s7.pre, s7.new, fun a o h n => by rw [upd_ne (ne_of_none h hD)]; exact s7.fix a o h n⟩
                        · have e5 := (((eo'.step mo'.apart s2).step mo2.apart s4).step mo4.apart s5).step mo5.apart s6
                          exact ⟨e5.1, fun j w q => let ⟨v, q1, r⟩ := e5.2 j w q; ⟨v, q1, r.keep kk⟩⟩
                      · rw [if_neg hl] at hr'; exact hr'.elim
      · rw [if_neg hgd] at hr'; exact hr'.elim
    · have e : i = xs.length := by omega
      subst e
      rw [List.drop_length] at hr
      have hr' : R (if gdOk gd m' = true then .ok acc m' else .stuck) := hr
      by_cases hgd : gdOk gd m' = true
      · rw [if_pos hgd] at hr'
        exact .inl ⟨sr.stop _ ι' m' H' (Nat.le_refl _) st' mo' hgd, hr' ι' H' vacc st' mo' nD eD ra⟩
      · rw [if_neg hgd] at hr'; exact hr'.elim
theorem de_dc {kx vx tg iter : Expr} {ifs : List Expr} {scope : Scope} {own : List (Str × Nat)} {pos : Pos} {s : Em (List Wd × Gd)} {t : Tg} {g : TG} {c : Em Bool} {fk fv : Em Wd} (hc : X.calm = true) (hN : X.N.Nodup) (hi : PI X tg iter (tI X.K W s)) (ok : BlkOk X.N X.env.scope scope own)
    (hg : ∀ (s : Shared) (H : Hp) (C : Addr) (cl : List (Str × Addr)) (fp : List Addr), PG (X.blk s H scope (compEnvC scope cl C X.env) fp) tg g) (hk : GtOk X.K t g) (hsub : (t.slots.all fun i => (own.map (·.2)).contains i) = true) (ht : ∀ (s : Shared) (H : Hp) (C : Addr) (cl : List (Str × Addr)) (fp : List Addr), PTs (X.blk s H scope (compEnvC scope cl C X.env) fp) ifs (tT X.K W0 c))
    (hk2 : ∀ (s : Shared) (H : Hp) (C : Addr) (cl : List (Str × Addr)) (fp : List Addr), PE (X.blk s H scope (compEnvC scope cl C X.env) fp) kx (tE X.K W0 fk))
    (he : ∀ (s : Shared) (H : Hp) (C : Addr) (cl : List (Str × Addr)) (fp : List Addr), PE (X.blk s H scope (compEnvC scope cl C X.env) fp) vx (tE X.K W0 fv)) (hs : ∀ x, foldedSetIterable iter X.env x = pure x := by intro _; rfl) :
    PE X (.DictComp kx vx [⟨tg, iter, ifs, 0⟩] scope pos) (tE X.K W (eDc s t c fk fv (own.map (·.2)))) :=
  PEimp (pe_dc hc hN hi ok hg ht hk2 he hs) fun σ H Q h => post_dc hk (fun i hi => by simpa using List.all_eq_true.mp hsub i hi) h
end
end DL
set_option Elab.async false
set_option linter.all false
set_option maxRecDepth 100000
set_option maxHeartbeats 2000000
namespace DL
open PySem PySem.Spec PyProof.Rows L2

abbrev IsZipB (h : Heap) (z TI TO : Addr) (f0 f1 : Value) : Prop := h.get? z = some { cls := .type "zip", dict := none, data := .fields #[f0, f1, .bool false, .ref TI, .ref TO], slots := #[] }
section
variable {prog : Program} {w : World} {A : Around} {E : Value → Shared → Prop} {s : Shared} {z TI TO i1 i2 T : Addr} {fp1 fp2 : List Addr} {n1 n2 i : Nat} {P1 P2 : Nat → Value → Prop} {St1 St2 : Nat → Heap → Prop}
theorem zipB_free {b : Bool} {o : Obj} {Q : Bool → Shared → Prop} (hz : IsZipB s.heap z TI TO (rawInt T) (.bool b)) (hT : s.heap.get? T = some o)
    (h : ∀ h', IsZipB h' z TI TO (rawInt T) (.bool true) → Heap.SameBut z s.heap h' → Q false { s with heap := h' }) : wpAny (model prog w) A (Builtin.SmallTypes.ownedTupleIsFree (.ref z)) Q E s := by
  obtain ⟨hp, g, d, tk0, os⟩ := s
  unfold Builtin.SmallTypes.ownedTupleIsFree
  refine wpAny_bind (wpAny_field hz rfl (x := rawInt T) rfl ?_)
  show wpAny _ _ (loadIfAlive T >>= _) _ _ _
  refine wpAny_bind (PySem.W.kdx_alive hT ?_)
  simp only [Option.isNone_some, Bool.false_eq_true, if_false]
  cases b with
  | true =>
    refine wpAny_bind (wpAny_field hz rfl (x := .bool true) rfl ?_)
    rw [if_neg (by decide)]
    exact wpAny_pure (h _ hz ⟨rfl, fun _ _ => rfl⟩)
  | false =>
    refine wpAny_bind (wpAny_field hz rfl (x := .bool false) rfl ?_)
    rw [if_pos (by decide)]
    refine wpAny_bind (wpAny_setField_rec hz (by simp) fun g0 hz0 hs0 => ?_)
    exact wpAny_pure (h g0 hz0 hs0)
theorem zipB_next_item {b : Bool} {o : Obj} {Q : Value → Shared → Prop} (S : ZipSep2 z TI TO i1 i2 fp1 fp2) (D1 : Draws prog w A i1 fp1 n1 P1 St1) (D2 : Draws prog w A i2 fp2 n2 P2 St2)
    (hz : IsZipB s.heap z TI TO (rawInt T) (.bool b)) (hT : s.heap.get? T = some o) (hTI : IsTupOf2 s.heap TI (.ref i1) (.ref i2)) (st1 : St1 i s.heap) (st2 : St2 i s.heap) (hlt1 : i < n1) (hlt2 : i < n2)
    (hQ : ∀ x1 x2 h' tk, P1 i x1 → P2 i x2 → IsZipB h' z TI TO (rawInt T) (.bool true) → St1 (i + 1) h' → St2 (i + 1) h' → IsTupOf2 h' s.heap.objs.size x1 x2 → h'.objs.size = s.heap.objs.size + 1 →
      (∀ c o, c ≠ z → c ≠ i1 → c ≠ i2 → s.heap.get? c = some o → h'.get? c = some o) → Q (.ref s.heap.objs.size) { s with heap := h', toks := tk }) :
    wpAny (model prog w) A (Builtin.«zip.__next__» ⟨[.ref z], []⟩) (fun fin s' => ∃ v, fin = .done (.ret v) ∧ Q v s') E s := by
  obtain ⟨hp, g, d, tk0, os⟩ := s
  show wpAny _ _ (field (.ref z) 2 >>= _) _ _ _
  refine wpAny_bind (wpAny_field hz rfl (x := .bool false) rfl ?_)
  show wpAny _ _ (field (.ref z) 3 >>= _) _ _ _
  refine wpAny_bind (wpAny_field hz rfl (x := .ref TI) rfl ?_)
  refine wpAny_bind (wpAny_seqItems hTI rfl ?_)
  show wpAny _ _ (Builtin.SmallTypes.ownedTupleIsFree (.ref z) >>= _) _ _ _
  refine wpAny_bind (zipB_free hz hT fun g0 hz0 hs0 => ?_)
  replace hs0 : Heap.SameBut z hp g0 := hs0
  simp only [Bool.false_eq_true, if_false]
  try dsimp only
  refine wpAny_bind ?_
  first
  | rw [List.forIn_toArray]
  | (rw [← Array.forIn_toList]; simp only [List.toList_toArray])
  simp only [List.forIn_cons, List.forIn_nil]
  refine wpAny_bind (wpAny_bind (wpAny_holding ?_))
  show wpAny _ _ (Builtin.SmallTypes.nextOf (.ref i1) >>= _) _ _ ⟨g0, g, d, tk0, os⟩
  refine wpAny_bind (D1.item i _ _ _ hlt1 (D1.over st1 hs0 S.zf1) fun x1 p1 tk1 hx1 sn1 hp1 => wpAny_pure ?_)
  replace hp1 : Heap.SameBut i1 g0 p1 := hp1
  refine wpAny_pure ?_
  refine wpAny_bind (wpAny_bind (wpAny_holding ?_))
  show wpAny _ _ (Builtin.SmallTypes.nextOf (.ref i2) >>= _) _ _ ⟨p1, g, d, tk1, os⟩
  refine wpAny_bind (D2.item i _ _ _ hlt2 (D2.over (D2.over st2 hs0 S.zf2) hp1 S.sep1_2) fun x2 p2 tk2 hx2 sn2 hp2 => wpAny_pure ?_)
  replace hp2 : Heap.SameBut i2 p1 p2 := hp2
  refine wpAny_pure (wpAny_pure ?_)
  refine wpAny_bind (wpAny_newTuple ?_ (by show 2 ≤ sizeLine; decide))
  have hsz : p2.objs.size = hp.objs.size := by rw [hp2.1, hp1.1, hs0.1]
  have hzz : IsZipB p2 z TI TO (rawInt T) (.bool true) := hp2.extBut _ _ S.zi2 (hp1.extBut _ _ S.zi1 hz0)
  have hkk : ∀ c o, c ≠ z → c ≠ i1 → c ≠ i2 → hp.get? c = some o → p2.get? c = some o := fun c o cz c1 c2 e => hp2.extBut _ _ c2 (hp1.extBut _ _ c1 (hs0.extBut _ _ cz e))
  have hj1 : St1 (i + 1) p2 := D1.over sn1 hp2 S.sep2_1
  have up : ∀ c o, p2.get? c = some o → (p2.push { cls := .type "tuple", data := .seq #[x1, x2] }).get? c = some o := fun c o e => Heap.get?_push_of_some _ e
  have hT8 : IsTupOf2 (p2.push { cls := .type "tuple", data := .seq #[x1, x2] }) p2.objs.size x1 x2 := Heap.get?_push_size _ rfl
  have hz8 : (p2.push { cls := .type "tuple", data := .seq #[x1, x2] }).objs.size = p2.objs.size + 1 := Heap.size_push ..
  refine wpAny_pure ⟨_, rfl, ?_⟩
  rw [hsz] at hT8 hz8
  show Q (.ref p2.objs.size) ⟨p2.push { cls := .type "tuple", data := .seq #[x1, x2] }, g, d, tk2, os⟩
  rw [hsz]
  exact hQ x1 x2 _ tk2 hx1 hx2 (up _ _ hzz) (D1.frame _ _ _ hj1 fun b hb o e => up b o e) (D2.frame _ _ _ sn2 fun b hb o e => up b o e) hT8 hz8 fun c o cz c1 c2 e => up c o (hkk c o cz c1 c2 e)
theorem zipB_next_end {b : Bool} {o : Obj} {Q : Fin → Shared → Prop} (S : ZipSep2 z TI TO i1 i2 fp1 fp2) (D1 : Draws prog w A i1 fp1 n1 P1 St1) (D2 : Draws prog w A i2 fp2 n2 P2 St2)
    (hz : IsZipB s.heap z TI TO (rawInt T) (.bool b)) (hT : s.heap.get? T = some o) (hTI : IsTupOf2 s.heap TI (.ref i1) (.ref i2)) (st1 : St1 i s.heap) (st2 : St2 i s.heap) (hle1 : i ≤ n1) (hle2 : i ≤ n2) (hend : i = n1 ∨ i = n2)
    (hE : ∀ h' tk e, (∀ c o, c ≠ z → c ≠ i1 → c ≠ i2 → s.heap.get? c = some o → h'.get? c = some o) → (∃ o, h'.get? e = some o ∧ o.cls = .type "StopIteration") → E (.ref e) { s with heap := h', toks := tk }) :
    wpAny (model prog w) A (Builtin.«zip.__next__» ⟨[.ref z], []⟩) Q E s := by
  obtain ⟨hp, g, d, tk0, os⟩ := s
  show wpAny _ _ (field (.ref z) 2 >>= _) _ _ _
  refine wpAny_bind (wpAny_field hz rfl (x := .bool false) rfl ?_)
  show wpAny _ _ (field (.ref z) 3 >>= _) _ _ _
  refine wpAny_bind (wpAny_field hz rfl (x := .ref TI) rfl ?_)
  refine wpAny_bind (wpAny_seqItems hTI rfl ?_)
  show wpAny _ _ (Builtin.SmallTypes.ownedTupleIsFree (.ref z) >>= _) _ _ _
  refine wpAny_bind (zipB_free hz hT fun g0 hz0 hs0 => ?_)
  replace hs0 : Heap.SameBut z hp g0 := hs0
  simp only [Bool.false_eq_true, if_false]
  try dsimp only
  refine wpAny_bind ?_
  first
  | rw [List.forIn_toArray]
  | (rw [← Array.forIn_toList]; simp only [List.toList_toArray])
  simp only [List.forIn_cons, List.forIn_nil]
  refine wpAny_bind (wpAny_bind (wpAny_holding ?_))
  show wpAny _ _ (Builtin.SmallTypes.nextOf (.ref i1) >>= _) _ _ ⟨g0, g, d, tk0, os⟩
  by_cases hlt1 : i < n1
  · refine wpAny_bind (D1.item i _ _ _ hlt1 (D1.over st1 hs0 S.zf1) fun x1 p1 tk1 hx1 sn1 hp1 => wpAny_pure ?_)
    replace hp1 : Heap.SameBut i1 g0 p1 := hp1
    refine wpAny_pure ?_
    have hi2 : i = n2 := by omega
    refine wpAny_bind (wpAny_bind (wpAny_holding ?_))
    show wpAny _ _ (Builtin.SmallTypes.nextOf (.ref i2) >>= _) _ _ ⟨p1, g, d, tk1, os⟩
    refine wpAny_bind (D2.done ⟨p1, g, d, tk1, os⟩ _ _ (by rw [← hi2]; exact D2.over (D2.over st2 hs0 S.zf2) hp1 S.sep1_2) fun q e hq he => ?_)
    replace hq : Heap.ExtBut i2 p1 q := hq
    exact hE q tk1 e (fun c o cz c1 c2 x => hq _ _ c2 (hp1.extBut _ _ c1 (hs0.extBut _ _ cz x))) he
  · have hi1 : i = n1 := by omega
    refine wpAny_bind (D1.done ⟨g0, g, d, tk0, os⟩ _ _ (by rw [← hi1]; exact D1.over st1 hs0 S.zf1) fun q e hq he => ?_)
    replace hq : Heap.ExtBut i1 g0 q := hq
    exact hE q tk0 e (fun c o cz c1 c2 x => hq _ _ c1 (hs0.extBut _ _ cz x)) he
/-- one more, or the end -/
theorem zipB_pyNext_item {b : Bool} {o : Obj} {Q : Option Value → Shared → Prop} (S : ZipSep2 z TI TO i1 i2 fp1 fp2) (D1 : Draws prog w A.in1 i1 fp1 n1 P1 St1) (D2 : Draws prog w A.in1 i2 fp2 n2 P2 St2)
    (hz : IsZipB s.heap z TI TO (rawInt T) (.bool b)) (hT : s.heap.get? T = some o) (hTI : IsTupOf2 s.heap TI (.ref i1) (.ref i2)) (st1 : St1 i s.heap) (st2 : St2 i s.heap) (hlt1 : i < n1) (hlt2 : i < n2)
    (hQ : ∀ x1 x2 h' tk, P1 i x1 → P2 i x2 → IsZipB h' z TI TO (rawInt T) (.bool true) → St1 (i + 1) h' → St2 (i + 1) h' → IsTupOf2 h' s.heap.objs.size x1 x2 → h'.objs.size = s.heap.objs.size + 1 →
      (∀ c o, c ≠ z → c ≠ i1 → c ≠ i2 → s.heap.get? c = some o → h'.get? c = some o) → Q (some (.ref s.heap.objs.size)) { s with heap := h', toks := tk }) :
    wpAny (model prog w) A (pyNext (.ref z)) Q E s := by
  have hT0 : s.TypeIs (.ref z) "zip" := ⟨_, hz, rfl⟩
  unfold pyNext
  exact wpAny_bind (wpAny_attempt (wpAny_callSpecial?_slot (name := Str.ofString "__next__") hT0 F.slot_zip_next
    (wpAny_call_entry F.slot_zip_next hT0 F.entry_zip_next
      (zipB_next_item S D1 D2 hz hT hTI st1 st2 hlt1 hlt2 fun x1 x2 h' tk y1 y2 b1 d1 d2 b5 b6 b7 => wpAny_pure (hQ x1 x2 h' tk y1 y2 b1 d1 d2 b5 b6 b7)) (F.args_zip_next_1 _))))
theorem zipB_pyNext_end {b : Bool} {o : Obj} {Q : Option Value → Shared → Prop} (S : ZipSep2 z TI TO i1 i2 fp1 fp2) (D1 : Draws prog w A.in1 i1 fp1 n1 P1 St1) (D2 : Draws prog w A.in1 i2 fp2 n2 P2 St2)
    (hz : IsZipB s.heap z TI TO (rawInt T) (.bool b)) (hT : s.heap.get? T = some o) (hTI : IsTupOf2 s.heap TI (.ref i1) (.ref i2)) (st1 : St1 i s.heap) (st2 : St2 i s.heap) (hle1 : i ≤ n1) (hle2 : i ≤ n2) (hend : i = n1 ∨ i = n2)
    (hQ : ∀ h' tk, (∀ c o, c ≠ z → c ≠ i1 → c ≠ i2 → s.heap.get? c = some o → h'.get? c = some o) → Q none { s with heap := h', toks := tk }) : wpAny (model prog w) A (pyNext (.ref z)) Q E s := by
  have hT0 : s.TypeIs (.ref z) "zip" := ⟨_, hz, rfl⟩
  unfold pyNext
  refine wpAny_bind (wpAny_attempt (wpAny_callSpecial?_slot (name := Str.ofString "__next__") hT0 F.slot_zip_next
    (wpAny_call_entry F.slot_zip_next hT0 F.entry_zip_next (zipB_next_end S D1 D2 hz hT hTI st1 st2 hle1 hle2 hend fun h' tk e hk he => ?_) (F.args_zip_next_1 _))))
  obtain ⟨o, ho, hc⟩ := he
  refine wpAny_bind (wpAny_isInstance (T := "StopIteration") (b := true) ⟨o, ho, hc⟩ isSubtype_stop ?_)
  exact wpAny_pure (hQ _ _ hk)
/-- zip's state, the last pair handed out and held, or none yet -/
def ZSt (TI TO z i1 i2 : Addr) (St1 St2 : Nat → Heap → Prop) (i : Nat) (h : Heap) : Prop :=
  IsTupOf2 h TI (.ref i1) (.ref i2) ∧ (∃ a1 a2, IsTupOf2 h TO a1 a2) ∧ St1 i h ∧ St2 i h ∧ (IsZip h z TI TO .none ∨ ∃ (T : Addr) (b : Bool) (o : Obj), IsZipB h z TI TO (rawInt T) (.bool b) ∧ h.get? T = some o ∧ T ≠ z ∧ T ≠ TO ∧ T ≠ i1 ∧ T ≠ i2)
theorem zst_item {Q : Option Value → Shared → Prop} (S : ZipSep2 z TI TO i1 i2 fp1 fp2) (D1 : Draws prog w A.in1 i1 fp1 n1 P1 St1) (D2 : Draws prog w A.in1 i2 fp2 n2 P2 St2) (hst : ZSt TI TO z i1 i2 St1 St2 i s.heap) (hlt1 : i < n1) (hlt2 : i < n2)
    (hQ : ∀ x1 x2 h' tk, P1 i x1 → P2 i x2 → ZSt TI TO z i1 i2 St1 St2 (i + 1) h' → IsTupOf2 h' s.heap.objs.size x1 x2 → h'.objs.size = s.heap.objs.size + 1 →
      (∀ c o, c ∉ [z, TO, i1, i2] → s.heap.get? c = some o → h'.get? c = some o) → Q (some (.ref s.heap.objs.size)) { s with heap := h', toks := tk }) :
    wpAny (model prog w) A (pyNext (.ref z)) Q E s := by
  obtain ⟨hTI, ⟨a1, a2, hTO⟩, st1, st2, hz⟩ := hst
  have lt : ∀ {c o}, s.heap.get? c = some o → s.heap.objs.size ≠ c := fun e => Nat.ne_of_gt (Heap.lt_size e)
  have l1 : s.heap.objs.size ≠ i1 := by obtain ⟨_, e⟩ := D1.live _ _ st1; exact lt e
  have l2 : s.heap.objs.size ≠ i2 := by obtain ⟨_, e⟩ := D2.live _ _ st2; exact lt e
  rcases hz with hz | ⟨T, b, o, hz, hT, t1, t2, t3, t4⟩
  · refine wpAny_pyNext_zipD2_item S D1 D2 hz hTI hTO st1 st2 hlt1 hlt2 fun x1 x2 h' tk p1 p2 b1 b2 d1 d2 b5 b6 hk => ?_
    exact hQ x1 x2 h' tk p1 p2 ⟨hk _ _ S.TIz S.TITO S.TIi1 S.TIi2 hTI, ⟨_, _, b2⟩, d1, d2, .inr ⟨_, false, _, b1, b5, lt hz, lt hTO, l1, l2⟩⟩ b5 b6 fun c o hc e =>
      hk c o (fun x => hc (by simp [x])) (fun x => hc (by simp [x])) (fun x => hc (by simp [x])) (fun x => hc (by simp [x])) e
  · refine zipB_pyNext_item S D1 D2 hz hT hTI st1 st2 hlt1 hlt2 fun x1 x2 h' tk p1 p2 b1 d1 d2 b5 b6 hk => ?_
    exact hQ x1 x2 h' tk p1 p2 ⟨hk _ _ S.TIz S.TIi1 S.TIi2 hTI, ⟨_, _, hk _ _ S.TOz S.Ti1 S.Ti2 hTO⟩, d1, d2, .inr ⟨T, true, o, b1, hk _ _ t1 t3 t4 hT, t1, t2, t3, t4⟩⟩ b5 b6 fun c o hc e =>
      hk c o (fun x => hc (by simp [x])) (fun x => hc (by simp [x])) (fun x => hc (by simp [x])) e
theorem zst_end {Q : Option Value → Shared → Prop} (S : ZipSep2 z TI TO i1 i2 fp1 fp2) (D1 : Draws prog w A.in1 i1 fp1 n1 P1 St1) (D2 : Draws prog w A.in1 i2 fp2 n2 P2 St2) (hst : ZSt TI TO z i1 i2 St1 St2 i s.heap) (hle1 : i ≤ n1) (hle2 : i ≤ n2) (hend : i = n1 ∨ i = n2)
    (hQ : ∀ h' tk, (∀ c o, c ∉ [z, TO, i1, i2] → s.heap.get? c = some o → h'.get? c = some o) → Q none { s with heap := h', toks := tk }) : wpAny (model prog w) A (pyNext (.ref z)) Q E s := by
  obtain ⟨hTI, ⟨a1, a2, hTO⟩, st1, st2, hz⟩ := hst
  rcases hz with hz | ⟨T, b, o, hz, hT, t1, t2, t3, t4⟩
  · exact wpAny_pyNext_zipD2_end S D1 D2 hz hTI hTO st1 st2 hle1 hle2 hend fun h' tk hk => hQ h' tk fun c o hc e =>
      hk c o (fun x => hc (by simp [x])) (fun x => hc (by simp [x])) (fun x => hc (by simp [x])) (fun x => hc (by simp [x])) e
  · exact zipB_pyNext_end S D1 D2 hz hT hTI st1 st2 hle1 hle2 hend fun h' tk hk => hQ h' tk fun c o hc e =>
      hk c o (fun x => hc (by simp [x])) (fun x => hc (by simp [x])) (fun x => hc (by simp [x])) e
theorem zst_keep {h h' : Heap} (D1 : Draws prog w A i1 fp1 n1 P1 St1) (D2 : Draws prog w A i2 fp2 n2 P2 St2) (hst : ZSt TI TO z i1 i2 St1 St2 i h) {S0 : Addr} (n1' : S0 ∉ fp1) (n2' : S0 ∉ fp2) (nz : S0 ≠ z) (nT : S0 ≠ TO) (nI : S0 ≠ TI) (hk : ∀ c o, c ≠ S0 → h.get? c = some o → h'.get? c = some o) (ex : ∀ o, h.get? S0 = some o → ∃ o', h'.get? S0 = some o') :
    ZSt TI TO z i1 i2 St1 St2 i h' := by
  obtain ⟨hTI, ⟨a1, a2, hTO⟩, st1, st2, hz⟩ := hst
  refine ⟨hk _ _ nI.symm hTI, ⟨a1, a2, hk _ _ nT.symm hTO⟩, D1.frame _ _ _ st1 fun b hb o e => hk b o (fun q => n1' (q ▸ hb)) e, D2.frame _ _ _ st2 fun b hb o e => hk b o (fun q => n2' (q ▸ hb)) e, ?_⟩
  rcases hz with hz | ⟨T, b, o, hz, hT, t⟩
  · exact .inl (hk _ _ nz.symm hz)
  · by_cases q : T = S0
    · subst q
      obtain ⟨o', e'⟩ := ex o hT
      exact .inr ⟨T, b, o', hk _ _ nz.symm hz, e', t⟩
    · exact .inr ⟨T, b, o, hk _ _ nz.symm hz, hk _ _ q hT, t⟩
end
end DL
set_option Elab.async false
set_option linter.all false
set_option maxRecDepth 100000
set_option maxHeartbeats 2000000
namespace DL
open PySem PySem.Spec PyProof.Rows L2
theorem nolen_zip : typeLookup (.type "zip") "__len__" = pure none := by rw [typeLookup_type, builtinLookup_eq_fast]; kernel_rfl
theorem nohint_zip : typeLookup (.type "zip") "__length_hint__" = pure none := by rw [typeLookup_type, builtinLookup_eq_fast]; kernel_rfl
/-- the pairs made so far -/
def PairsAt (xs ys : List V) (H : Hp) (acc : List V) : Prop := ∀ (j : Nat) (x y : V), j < acc.length → xs[j]? = some x → ys[j]? = some y → ∃ T : Addr, acc[j]? = some (.ref T) ∧ H T = some (.tup [x, y])
structure Grown (H H' : Hp) (S0 : Addr) : Prop where
  old : ∀ a o, a ≠ S0 → H a = some o → H' a = some o
section
variable {X : Cx} {A : Around} {pins : List (Addr × Obj)} {σ : L2.St} {z TI TO i1 i2 : Addr} {fp1 fp2 : List Addr} {n1 n2 : Nat} {P1 P2 : Nat → Value → Prop} {St1 St2 : Nat → Heap → Prop} {xs ys : List V} {R : Result → Shared → Prop}
theorem zip_loop {n : Nat} {S0 : Addr} {res : Value} (S : ZipSep2 z TI TO i1 i2 fp1 fp2) (D1 : Draws X.prog X.w A.in1.in1 i1 fp1 n1 P1 St1) (D2 : Draws X.prog X.w A.in1.in1 i2 fp2 n2 P2 St2)
    (hP1 : ∀ i x, P1 i x → ∃ v, xs[i]? = some v ∧ RelV v x) (hP2 : ∀ i x, P2 i x → ∃ v, ys[i]? = some v ∧ RelV v x) (s1 : S0 ∉ fp1) (s2 : S0 ∉ fp2) (sz : S0 ≠ z) (sT : S0 ≠ TO) (sI : S0 ≠ TI)
    (hn : n = min n1 n2) (hz : n ≤ sizeLine) : ∀ (k i : Nat) (s : Shared) (H H0 : Hp) (acc : List V), n - i = k → i ≤ n → Inv X pins σ H s → H S0 = some (.lst acc) → acc.length = i → PairsAt xs ys H acc → (∀ b ∈ [z, TO, i1, i2], FpOk X pins H b) → ZSt TI TO z i1 i2 St1 St2 i s.heap → Grown H0 H S0 →
      (∀ s' H' acc', Inv X pins σ H' s' → H' S0 = some (.lst acc') → acc'.length = n → PairsAt xs ys H' acc' → Grown H0 H' S0 → R (.ok (.ret res)) s') → codeAny (model X.prog X.w) A (.builtin "list.extend.loop" ⟨[.ref S0, .ref z, res], []⟩) R s := by
  intro k
  induction k with
  | zero =>
    intro i s H H0 acc hk hi I hS hl hp hf hst hg hR
    have hin : i = n := by omega
    subst hin
    refine codeAny_builtin F.entry_extend_loop ?_
    rw [Around.under_plainId F.plain_extend_loop _]
    show wpAny _ A.in1 (pyNext (.ref z) >>= _) _ _ s
    refine wpAny_bind (zst_end S D1 D2 hst (by omega) (by omega) (by omega) fun h' tk hk' => ?_)
    exact wpAny_pure (hR _ H acc (I.turnedL (t' := tk) hk' hf) hS hl hp hg)
  | succ k ih =>
    intro i s H H0 acc hk hi I hS hl hp hf hst hg hR
    refine codeAny_builtin F.entry_extend_loop ?_
    rw [Around.under_plainId F.plain_extend_loop _]
    show wpAny _ A.in1 (pyNext (.ref z) >>= _) _ _ s
    obtain ⟨hTI, ⟨a1, a2, hTO⟩, st1, st2, hzz⟩ := id hst
    have lt : ∀ {c o}, s.heap.get? c = some o → c < s.heap.objs.size := fun e => Heap.lt_size e
    have l1 : i1 < s.heap.objs.size := by obtain ⟨_, e⟩ := D1.live _ _ st1; exact lt e
    have l2 : i2 < s.heap.objs.size := by obtain ⟨_, e⟩ := D2.live _ _ st2; exact lt e
    have lz : z < s.heap.objs.size := by
      rcases hzz with e | ⟨_, _, _, e, _⟩
      · exact lt e
      · exact lt e
    have lT : TO < s.heap.objs.size := lt hTO
    have lS : S0 < s.heap.objs.size := I.hok.lt hS
    refine wpAny_bind (zst_item S D1 D2 hst (by omega) (by omega) fun x1 x2 h' tk p1 p2 hst' hT hsz hk' => ?_)
    obtain ⟨v1, e1, r1⟩ := hP1 _ _ p1
    obtain ⟨v2, e2, r2⟩ := hP2 _ _ p2
    have new : ObjOk X.prog X.w (upd H s.heap.objs.size (.tup [v1, v2])) h' s.heap.objs.size (.tup [v1, v2]) :=
      ⟨by show 2 ≤ sizeLine; decide, [x1, x2], .cons r1 (.cons r2 .nil), ⟨_, hT, rfl, _, rfl⟩⟩
    have I1 : Inv X pins σ (upd H s.heap.objs.size (.tup [v1, v2])) { s with heap := h', toks := tk } := I.turnedNew (t' := tk) hk' hf (Nat.le_refl _) new
    have hS1 : upd H s.heap.objs.size (.tup [v1, v2]) S0 = some (.lst acc) := (upd_ne (Nat.ne_of_lt lS)).trans hS
    obtain ⟨hzl, its, nn, rv, hlen, e⟩ := I1.lstM hS1
    show wpAny _ A.in1 (updateSeq S0 (·.push (.ref s.heap.objs.size)) >>= _) _ _ _
    refine wpAny_bind ?_
    have I2 : Inv X pins σ (upd (upd H s.heap.objs.size (.tup [v1, v2])) S0 (.lst (acc ++ [.ref s.heap.objs.size]))) { s with heap := h'.update S0 (Obj.mapSeq (·.push (.ref s.heap.objs.size))), toks := tk } :=
      I1.lset (its := its) (its' := its ++ [.ref s.heap.objs.size]) (f := (·.push (.ref s.heap.objs.size))) (t' := tk) hS1 e (by simp) (rv.append (.cons (show L2.RelV (.ref s.heap.objs.size) (.ref s.heap.objs.size) from rfl) .nil)) (by rw [List.length_append, List.length_singleton]; omega)
    have uN : ∀ {c : Addr}, c < s.heap.objs.size → c ≠ S0 → upd (upd H s.heap.objs.size (.tup [v1, v2])) S0 (.lst (acc ++ [.ref s.heap.objs.size])) c = H c := fun hc hn' => (upd_ne hn').trans (upd_ne (Nat.ne_of_lt hc))
    have hT2 : upd (upd H s.heap.objs.size (.tup [v1, v2])) S0 (.lst (acc ++ [.ref s.heap.objs.size])) s.heap.objs.size = some (.tup [v1, v2]) := (upd_ne (Nat.ne_of_gt lS)).trans upd_same
    refine wpAny_updateSeq e rfl (wpAny_pure ⟨plainId_quiet F.plain_extend_loop _, ih (i + 1) _ _ H0 (acc ++ [.ref s.heap.objs.size]) (by omega) (by omega) I2 upd_same (by rw [List.length_append, List.length_singleton]; omega) (fun j x y hj ex ey => ?_) (fun b hb => ?_) ?_ ?_ hR⟩)
    · rw [List.length_append, List.length_singleton] at hj
      by_cases hjl : j < acc.length
      · obtain ⟨T, q1, q2⟩ := hp j x y hjl ex ey
        have hTlt : T < s.heap.objs.size := I.hok.lt q2
        refine ⟨T, by rw [List.getElem?_append_left hjl]; exact q1, (uN hTlt fun q => ?_).trans q2⟩
        subst q; rw [hS] at q2; cases q2
      · have ej : j = i := by omega
        subst ej
        rw [e1] at ex; rw [e2] at ey
        cases ex; cases ey
        refine ⟨s.heap.objs.size, ?_, hT2⟩
        rw [List.getElem?_append_right (by omega), hl]
        simp
    · obtain ⟨f1, f2⟩ := hf b hb
      have hbl : b < s.heap.objs.size := by
        have e' : b = z ∨ b = TO ∨ b = i1 ∨ b = i2 := by simpa using hb
        rcases e' with q | q | q | q <;> (rw [q]; assumption)
      have hbS : b ≠ S0 := fun q => by subst q; rw [hS] at f1; cases f1
      exact ⟨(uN hbl hbS).trans f1, f2⟩
    · exact zst_keep D1 D2 hst' s1 s2 sz sT sI (fun c o hc e' => (Heap.get?_update_other _ _ (Ne.symm hc)).trans e') fun o e' => ⟨_, Heap.get?_update_self _ e rfl⟩
    · refine ⟨fun a o ha e' => ?_⟩
      have e2' := hg.old a o ha e'
      exact (uN (I.hok.lt e2') ha).trans e2'
/-- list(z), z a zip object -/
theorem zip_extend {n : Nat} {S0 : Addr} {res : Value} {s : Shared} {H : Hp} (S : ZipSep2 z TI TO i1 i2 fp1 fp2) (D1 : Draws X.prog X.w A.in1.in1 i1 fp1 n1 P1 St1) (D2 : Draws X.prog X.w A.in1.in1 i2 fp2 n2 P2 St2)
    (hP1 : ∀ i x, P1 i x → ∃ v, xs[i]? = some v ∧ RelV v x) (hP2 : ∀ i x, P2 i x → ∃ v, ys[i]? = some v ∧ RelV v x) (s1 : S0 ∉ fp1) (s2 : S0 ∉ fp2) (sz : S0 ≠ z) (sT : S0 ≠ TO) (sI : S0 ≠ TI)
    (hn : n = min n1 n2) (hz : n ≤ sizeLine) (I : Inv X pins σ H s) (hS : H S0 = some (.lst [])) (hf : ∀ b ∈ [z, TO, i1, i2], FpOk X pins H b) (hst : ZSt TI TO z i1 i2 St1 St2 0 s.heap) (h0 : IsZip s.heap z TI TO .none)
    (hR : ∀ s' H' acc', Inv X pins σ H' s' → H' S0 = some (.lst acc') → acc'.length = n → PairsAt xs ys H' acc' → Grown H H' S0 → R (.ok (.ret res)) s') :
    wpAny (model X.prog X.w) A.in1 (Builtin.List.listExtendWith (.ref S0) (.ref z) res)
      (fun fin s' => match fin with | .done f => R (.ok f) s' | .again c' => c'.quiet = true ∧ codeAny (model X.prog X.w) A c' R s') (fun e s' => R (.error e) s') s := by
  have hT : s.TypeIs (.ref z) "zip" := ⟨_, h0, rfl⟩
  unfold Builtin.List.listExtendWith
  refine wpAny_bind (wpAny_typeOf hT ?_)
  have h1 : Builtin.List.listSameRef (.ref S0) (.ref z) = false := by simp [Builtin.List.listSameRef, sz]
  have h2 : (Value.type "zip" == Value.type "list") = false := by decide
  have h3 : (Value.type "zip" == Value.type "tuple") = false := by decide
  simp only [h1, h2, h3, Bool.or_false, Bool.false_eq_true, if_false]
  refine wpAny_bind (wpAny_pyIter_zip h0 ?_)
  refine wpAny_bind (wpAny_holding ?_)
  unfold Builtin.List.listLengthHint
  refine wpAny_bind (wpAny_specialOf hT nolen_zip ?_)
  show wpAny _ A.in1 (specialOf (Value.ref z) (Str.ofString "__length_hint__") >>= _) _ _ _
  refine wpAny_bind (wpAny_specialOf hT nohint_zip ?_)
  refine wpAny_pure ?_
  show wpAny _ A.in1 (rule "list.extend.makes-room" >>= fun _ => Builtin.List.listTouch (.ref S0) >>= fun _ =>
    again (.builtin "list.extend.loop" ⟨[.ref S0, .ref z, res], []⟩)) _ _ _
  refine wpAny_bind (wpAny_rule ?_)
  refine wpAny_bind ?_
  show wpAny _ A.in1 (updateSeq S0 (·.push .none) >>= fun _ => updateSeq S0 (·.pop)) _ _ _
  obtain ⟨_, its, nn, rv, hlen, e⟩ := I.lstM hS
  have hits : its = [] := by cases its with | nil => rfl | cons _ _ => simp at hlen
  subst hits
  refine wpAny_bind (wpAny_updateSeq e rfl ?_)
  have e2 := Heap.get?_update_self (Obj.mapSeq (·.push Value.none)) e rfl
  refine wpAny_updateSeq (hz := by show 1 ≤ sizeLine; decide) e2 rfl ?_
  have I1 : Inv X pins σ (upd H S0 (.lst [.non])) { s with heap := s.heap.update S0 (Obj.mapSeq (·.push Value.none)) } := I.lset (its := []) (its' := [.none]) (f := (·.push Value.none)) (t' := s.toks) hS e (by simp) (.cons rfl .nil) (by show 1 ≤ sizeLine; decide)
  have I2 : Inv X pins σ (upd (upd H S0 (.lst [.non])) S0 (.lst [])) { s with heap := (s.heap.update S0 (Obj.mapSeq (·.push Value.none))).update S0 (Obj.mapSeq (·.pop)) } := I1.lset (its := [.none]) (its' := []) (f := (·.pop)) (t' := s.toks) upd_same e2 (by simp) .nil (by show 0 ≤ sizeLine; decide)
  have eu : upd (upd H S0 (.lst [.non])) S0 (.lst []) = H := by
    funext c
    by_cases q : c = S0
    · subst q; rw [upd_same, hS]
    · rw [upd_ne q, upd_ne q]
  rw [eu] at I2
  have oth : ∀ c o, c ≠ S0 → s.heap.get? c = some o → ((s.heap.update S0 (Obj.mapSeq (·.push Value.none))).update S0 (Obj.mapSeq (·.pop))).get? c = some o := fun c o hc q => (Heap.get?_update_other _ _ (Ne.symm hc)).trans ((Heap.get?_update_other _ _ (Ne.symm hc)).trans q)
  refine wpAny_pure ⟨plainId_quiet F.plain_extend_loop _, zip_loop S D1 D2 hP1 hP2 s1 s2 sz sT sI hn hz n 0 _ H H [] rfl (Nat.zero_le _) I2 hS rfl (fun j _ _ hj => absurd hj (Nat.not_lt_zero _)) hf ?_ ⟨fun _ _ _ q => q⟩ hR⟩
  exact zst_keep D1 D2 hst s1 s2 sz sT sI oth fun o _ => ⟨_, Heap.get?_update_self _ e2 rfl⟩
end
end DL
set_option Elab.async false
set_option linter.all false
set_option maxRecDepth 100000
set_option maxHeartbeats 2000000
namespace DL
open PySem PySem.Spec PyProof.Rows L2
theorem zapart_sep {z TI TO i1 i2 a b : Addr} (D : ZipApart z TI TO i1 i2 a b) : ZipSep2 z TI TO i1 i2 [i1, a] [i2, b] where
  TIz := D.TIz
  TOz := D.TOz
  TITO := D.TITO
  TIi1 := D.TIi1
  mem1 := by simp
  zf1 := by simp [D.i1z.symm, D.l1z.symm]
  Tf1 := by simp [D.TOi1, D.l1TO.symm]
  TIi2 := D.TIi2
  mem2 := by simp
  zf2 := by simp [D.i2z.symm, D.l2z.symm]
  Tf2 := by simp [D.TOi2, D.l2TO.symm]
  sep1_2 := by simp [D.i12, D.l2i1.symm]
  sep2_1 := by simp [D.i12.symm, D.l1i2.symm]
theorem vals_get' : ∀ {xs : List V} {us : List Value} {i : Nat} {u : Value}, Vals xs us → us[i]? = some u → ∃ x, xs[i]? = some x ∧ RelV x u
  | [], _, i, u, .nil, e => by simp at e
  | _ :: _, _, 0, u, .cons h _, e => by simp at e; subst e; exact ⟨_, rfl, h⟩
  | _ :: _, _, i + 1, u, .cons _ h, e => by
    obtain ⟨x, e1, r⟩ := vals_get' (i := i) (u := u) h (by simpa using e)
    exact ⟨x, by simpa using e1, r⟩
section
variable {X : Cx} {pins : List (Addr × Obj)} {σ : L2.St} {H : Hp} {s : Shared} {E : Value → Shared → Prop} {xs ys : List V} {a b : Addr}
theorem list_zip_tail {h' : Heap} {Q : Value → Shared → Prop} {its its2 : List Value} {P1 P2 : Nat → Value → Prop} {St1 St2 : Nat → Heap → Prop} {n1 n2 : Nat} (hh : X.A.handled = none) (I : Inv X pins σ H s) (la : a < s.heap.objs.size) (lb : b < s.heap.objs.size)
    (hz : IsZip h' (s.heap.objs.size + 4) (s.heap.objs.size + 2) (s.heap.objs.size + 3) .none) (hTI : IsPair h' (s.heap.objs.size + 2) (.ref s.heap.objs.size) (.ref (s.heap.objs.size + 1))) (hTO : IsPair h' (s.heap.objs.size + 3) .none .none)
    (hsz : h'.objs.size = s.heap.objs.size + 5) (hk : ∀ c o, s.heap.get? c = some o → h'.get? c = some o)
    (D1 : Draws X.prog X.w X.A.in1.in1.in1 s.heap.objs.size [s.heap.objs.size, a] n1 P1 St1) (D2 : Draws X.prog X.w X.A.in1.in1.in1 (s.heap.objs.size + 1) [s.heap.objs.size + 1, b] n2 P2 St2) (st1 : St1 0 h') (st2 : St2 0 h')
    (hP1 : ∀ i x, P1 i x → ∃ v, xs[i]? = some v ∧ RelV v x) (hP2 : ∀ i x, P2 i x → ∃ v, ys[i]? = some v ∧ RelV v x) (hn1 : n1 = xs.length) (hn2 : n2 = ys.length) (hsz1 : xs.length ≤ sizeLine)
    (hQ : ∀ s' H' S0 acc, Inv X pins σ H' s' → H S0 = none → H' S0 = some (.lst acc) → acc.length = min xs.length ys.length → PairsAt xs ys H' acc → (∀ c o, H c = some o → H' c = some o) → Q (.ref S0) s') :
    wpAny (model X.prog X.w) X.A (call (.type "list") [.ref (s.heap.objs.size + 4)]) Q E { s with heap := h' } := by
  have I2 : Inv X pins σ H { s with heap := h' } := I.kept (t' := s.toks) hk
  refine callType_codes (Q₁ := fun obj s₁ => obj = .ref h'.objs.size ∧ s₁ = { s with heap := h'.push { cls := .type "list", data := .seq #[] } }) F.called_list (F.typeCall_list_1 _) F.entry_list_init (code_list_new _ ⟨rfl, rfl⟩) fun obj s₁ h₁ => ?_
  obtain ⟨rfl, rfl⟩ := h₁
  have hS : (h'.push { cls := .type "list", data := .seq #[] }).get? h'.objs.size = some { cls := .type "list", data := .seq #[] } := Heap.get?_push_size _ rfl
  refine ⟨⟨_, hS, rfl⟩, F.args_list_init_2 _ _, ?_⟩
  have I3 : Inv X pins σ (upd H h'.objs.size (.lst [])) { s with heap := h'.push { cls := .type "list", data := .seq #[] } } := I2.lnew (its := []) (t' := s.toks) .nil (by show 0 ≤ sizeLine; decide)
  show wpAny _ X.A.in1.in1 (do let old ← Builtin.List.listItems (.ref h'.objs.size); Builtin.List.listUpdate (.ref h'.objs.size) (fun _ => #[]); letGo old.toList.reverse; Builtin.List.listExtendWith (.ref h'.objs.size) (.ref (s.heap.objs.size + 4)) .none) _ _ _
  refine wpAny_bind ?_
  unfold Builtin.List.listItems
  refine wpAny_bind (wpAny_seqItems hS rfl (wpAny_pure ?_))
  show wpAny _ X.A.in1.in1 (updateSeq h'.objs.size (fun _ => #[]) >>= fun _ => letGo (#[] : Array Value).toList.reverse >>= fun _ => Builtin.List.listExtendWith (.ref h'.objs.size) (.ref (s.heap.objs.size + 4)) .none) _ _ _
  refine wpAny_bind (wpAny_updateSeq hS rfl ?_)
  refine wpAny_bind (wpAny_letGo ?_)
  have I4 : Inv X pins σ (upd (upd H h'.objs.size (.lst [])) h'.objs.size (.lst [])) { s with heap := (h'.push { cls := .type "list", data := .seq #[] }).update h'.objs.size (Obj.mapSeq (fun _ => (#[] : Array Value))) } :=
    I3.lset (its := []) (its' := []) (f := fun _ => #[]) (t' := s.toks) upd_same hS (by simp) .nil (by show 0 ≤ sizeLine; decide)
  have eu : upd (upd H h'.objs.size (.lst [])) h'.objs.size (.lst []) = upd H h'.objs.size (.lst []) := by
    funext c
    by_cases q : c = h'.objs.size
    · subst q; rw [upd_same, upd_same]
    · rw [upd_ne q]
  rw [eu] at I4
  have up : ∀ c o, h'.get? c = some o → ((h'.push { cls := .type "list", data := .seq #[] }).update h'.objs.size (Obj.mapSeq (fun _ => (#[] : Array Value)))).get? c = some o := fun c o e =>
    (Heap.get?_update_other _ _ (Ne.symm (Nat.ne_of_lt (Heap.lt_size e)))).trans (Heap.get?_push_of_some _ e)
  have D := PySem.W.ktu_apart s.heap.objs.size a b la lb
  have S := zapart_sep D
  have nS : ∀ c, c < h'.objs.size → h'.objs.size ≠ c := fun c h => Nat.ne_of_gt h
  have g1 : h'.objs.size ∉ [s.heap.objs.size, a] := by
    intro q
    rcases List.mem_cons.mp q with q | q
    · rw [hsz] at q; exact absurd q (by show ¬ (s.heap.objs.size + 5 = s.heap.objs.size); omega)
    · have q := List.mem_singleton.mp q
      rw [hsz] at q
      have la' : a < s.heap.objs.size := la
      rw [← q] at la'
      exact Nat.lt_irrefl _ (Nat.lt_of_le_of_lt (Nat.le_add_right s.heap.objs.size 5) la')
  have g2 : h'.objs.size ∉ [s.heap.objs.size + 1, b] := by
    intro q
    rcases List.mem_cons.mp q with q | q
    · rw [hsz] at q; exact absurd q (by show ¬ (s.heap.objs.size + 5 = s.heap.objs.size + 1); omega)
    · have q := List.mem_singleton.mp q
      rw [hsz] at q
      have lb' : b < s.heap.objs.size := lb
      rw [← q] at lb'
      exact Nat.lt_irrefl _ (Nat.lt_of_le_of_lt (Nat.le_add_right s.heap.objs.size 5) lb')
  have g3 : h'.objs.size ≠ s.heap.objs.size + 4 := by rw [hsz]; omega
  have g4 : h'.objs.size ≠ s.heap.objs.size + 3 := by rw [hsz]; omega
  have g5 : h'.objs.size ≠ s.heap.objs.size + 2 := by rw [hsz]; omega
  have g6 : min n1 n2 ≤ sizeLine := by rw [hn1]; exact Nat.le_trans (Nat.min_le_left ..) hsz1
  refine zip_extend (X := X) (A := X.A.in1) (R := wants (fun r s₂ => r = Value.none ∧ Q (Value.ref h'.objs.size) s₂) E) (n := min n1 n2) (xs := xs) (ys := ys) S D1 D2 hP1 hP2 g1 g2 g3 g4 g5 rfl g6 I4 upd_same (fun c hc => ?_) ⟨up _ _ hTI, ⟨_, _, up _ _ hTO⟩, D1.frame _ _ _ st1 fun b _ o e => up b o e, D2.frame _ _ _ st2 fun b _ o e => up b o e, .inl (up _ _ hz)⟩ (up _ _ hz) fun s' H' acc' I' hS' hl' hp' hg' => ?_
  · have e' : c = s.heap.objs.size + 4 ∨ c = s.heap.objs.size + 3 ∨ c = s.heap.objs.size ∨ c = s.heap.objs.size + 1 := by simpa using hc
    have hle : s.heap.objs.size ≤ c := by rcases e' with q | q | q | q <;> (rw [q]; omega)
    have hne : c ≠ h'.objs.size := by
      rw [hsz]
      rcases e' with q | q | q | q <;> rw [q]
      · exact fun z => absurd (show (s.heap.objs.size + 4 : Nat) = s.heap.objs.size + 5 from z) (by omega)
      · exact fun z => absurd (show (s.heap.objs.size + 3 : Nat) = s.heap.objs.size + 5 from z) (by omega)
      · exact fun z => absurd (show (s.heap.objs.size : Nat) = s.heap.objs.size + 5 from z) (by omega)
      · exact fun z => absurd (show (s.heap.objs.size + 1 : Nat) = s.heap.objs.size + 5 from z) (by omega)
    exact I.fpOk hle ((upd_ne hne).trans (I.hok.fresh hle))
  · have hne : ∀ c o, H c = some o → c ≠ h'.objs.size := fun c o e => by
      have hl : c < s.heap.objs.size := I.hok.lt e
      rw [hsz]
      exact Nat.ne_of_lt (Nat.lt_of_lt_of_le hl (Nat.le_add_right _ _))
    exact ⟨rfl, hQ s' H' h'.objs.size acc' I' (I.hok.fresh (by rw [hsz]; exact Nat.le_add_right _ _)) hS' (by rw [hl', hn1, hn2]) hp' fun c o e => hg'.old c o (hne c o e) ((upd_ne (hne c o e)).trans e)⟩
theorem call_list_zip {Q : Value → Shared → Prop} (hh : X.A.handled = none) (I : Inv X pins σ H s) (h : (SqL X.K H a xs ∧ SqL X.K H b ys) ∨ (SqT X.K H a xs ∧ SqT X.K H b ys))
    (hQ : ∀ s' H' S0 acc, Inv X pins σ H' s' → H S0 = none → H' S0 = some (.lst acc) → acc.length = min xs.length ys.length → PairsAt xs ys H' acc → (∀ c o, H c = some o → H' c = some o) → Q (.ref S0) s') :
    wpAny (model X.prog X.w) X.A (call (.type "zip") [.ref a, .ref b]) (fun v s1 => wpAny (model X.prog X.w) X.A (call (.type "list") [v]) Q E s1) E s := by
  have hh1 : X.A.in1.in1.in1.handled = none := hh
  rcases h with ⟨hx, hy⟩ | ⟨hx, hy⟩
  · obtain ⟨its, rv, p1, hz1⟩ := I.list hx
    obtain ⟨its2, rv2, p2, hz2⟩ := I.list hy
    have la : a < s.heap.objs.size := p1.lt
    have lb : b < s.heap.objs.size := p2.lt
    refine call_zip_2 p1.isList p2.isList fun h' hz hTI hTO h1 h2 hsz hk => ?_
    refine list_zip_tail (its := its) (its2 := its2) hh I la lb hz hTI hTO hsz hk (Draws.list hh1 s.heap.objs.size a (Nat.ne_of_lt la) its.toArray) (Draws.list hh1 (s.heap.objs.size + 1) b (Nat.ne_of_lt (Nat.lt_succ_of_lt lb)) its2.toArray)
      ⟨h1, p1.isList.at fun o e => hk _ o e⟩ ⟨h2, p2.isList.at fun o e => hk _ o e⟩ (fun i x e => ?_) (fun i x e => ?_) (by rw [List.size_toArray]; exact rv.length.symm) (by rw [List.size_toArray]; exact rv2.length.symm) hz1 hQ
    · exact vals_get' rv (by simpa using e)
    · exact vals_get' rv2 (by simpa using e)
  · obtain ⟨its, rv, p1, hz1⟩ := I.tuple hx
    obtain ⟨its2, rv2, p2, hz2⟩ := I.tuple hy
    have q1 : s.heap.IsTuple a its.toArray := p1
    have q2 : s.heap.IsTuple b its2.toArray := p2
    obtain ⟨o1, ho1, _⟩ := id q1
    obtain ⟨o2, ho2, _⟩ := id q2
    have la : a < s.heap.objs.size := Heap.lt_size ho1
    have lb : b < s.heap.objs.size := Heap.lt_size ho2
    refine RZ.call_zipT q1 q2 fun h' hz hTI hTO h1 h2 hsz hk => ?_
    refine list_zip_tail (its := its) (its2 := its2) hh I la lb hz hTI hTO hsz hk (Draws.tuple hh1 s.heap.objs.size a (Nat.ne_of_lt la) its.toArray) (Draws.tuple hh1 (s.heap.objs.size + 1) b (Nat.ne_of_lt (Nat.lt_succ_of_lt lb)) its2.toArray)
      ⟨h1, q1.at fun o e => hk _ o e⟩ ⟨h2, q2.at fun o e => hk _ o e⟩ (fun i x e => ?_) (fun i x e => ?_) (by rw [List.size_toArray]; exact rv.length.symm) (by rw [List.size_toArray]; exact rv2.length.symm) hz1 hQ
    · exact vals_get' rv (by simpa using e)
    · exact vals_get' rv2 (by simpa using e)
end
def isLW : Wd → Bool
  | .ref _ => true
  | .rol _ => true
  | _ => false
/-- list(zip(a, b)), both lists or both tuples -/
def lzO : OpN := fun ws m => match ws with
  | [a, b] => if (isLW a == isLW b) = true then (match seqOf m a, seqOf m b with
    | some xs, some ys => some (.ref m.cells.length, m.push (.lst ((xs.zip ys).map fun p => mkTup [p.1, p.2])))
    | _, _ => none) else none
  | _ => none
section
variable {K : PySem.W.Frag} {W : L2.WX} {ι : List Addr} {H : Hp} {σ : L2.St} {m : Mm} {X : Cx}
theorem seqOf_kind {w : Wd} {ws : List Wd} {v : V} (mo : MemOk K ι m H) (e : seqOf m w = some ws) (r : RelW K ι H w v) : ∃ a vs, v = .ref a ∧ (if isLW w = true then SqL K H a vs else SqT K H a vs) ∧ RelWs K ι H ws vs := by
  cases w with
  | d x =>
    obtain ⟨a, vs, h1, h2, h3⟩ := tupOf_ok (w := .d x) (ws := ws) (by cases x <;> first | exact e | cases e) r
    exact ⟨a, vs, h1, h2, h3⟩
  | ref n =>
    cases r with
    | ref hι =>
      have e' : (match m.cells[n]? with | some (.lst xs) => some xs | _ => none) = some ws := e
      cases qc : m.cells[n]? with
      | none => rw [qc] at e'; cases e'
      | some c =>
        rw [qc] at e'
        cases c with
        | lst xs =>
          cases e'
          obtain ⟨vs, h1, h2⟩ := mo.cell n _ _ hι qc
          exact ⟨_, vs, rfl, .inl (.inl h1), h2⟩
        | dct _ => cases e'
        | ins _ _ => cases e'
  | tup xs =>
    obtain ⟨a, vs, h1, h2, h3⟩ := tupOf_ok (w := .tup xs) (ws := ws) e r
    exact ⟨a, vs, h1, h2, h3⟩
  | rol xs =>
    cases e
    cases r with
    | rol hr hs => exact ⟨_, _, rfl, hr.sqL, hs⟩
  | v x => cases e
theorem pairs_ok : ∀ {xs ys : List Wd} {vs us acc : List V}, RelWs K ι H xs vs → RelWs K ι H ys us → acc.length = min vs.length us.length → PairsAt vs us H acc → RelWs K ι H ((xs.zip ys).map fun p => mkTup [p.1, p.2]) acc
  | _, _, _, _, acc, .nil, _, hl, _ => by
    have : acc = [] := List.eq_nil_of_length_eq_zero (by rw [hl]; simp [List.length])
    subst this; exact .nil
  | _, _, _, _, acc, .cons _ _, .nil, hl, _ => by
    have : acc = [] := List.eq_nil_of_length_eq_zero (by rw [hl]; simp [List.length])
    subst this; exact .nil
  | _, _, _, _, [], .cons _ _, .cons _ _, hl, _ => by simp at hl
  | _, _, _, _, c :: acc, .cons r1 rr, .cons r2 rr2, hl, hp => by
    obtain ⟨T, h1, h2⟩ := hp 0 _ _ (by simp) rfl rfl
    have hc : c = .ref T := by simpa using h1
    subst hc
    refine .cons (mkTup_ok (.of h2) (.cons r1 (.cons r2 .nil))) (pairs_ok rr rr2 (by simp at hl; omega) fun j x y hj ex ey => ?_)
    obtain ⟨T', q1, q2⟩ := hp (j + 1) x y (by simp; omega) (by simpa using ex) (by simpa using ey)
    exact ⟨T', by simpa using q1, q2⟩
theorem de_lz {a b : Expr} {fa : Em (List Wd)} {p p2 pos pos2 : Pos} (hc : X.calm = true) (hg : Gl X "list") (hm : X.mg "list" = none) (hg2 : Gl X "zip") (hm2 : X.mg "zip" = none) (ha : PA X [a, b] (tA X.K W fa))
    (hs : starEach [a, b] X.env = (false, eval a X.env) :: starEach [b] X.env := by rfl) (hpl : (backTo pos2 (starEach [b] X.env)).any (·.1) = false := by rfl)
    (na : starEach [.Call (.Name "zip" p2) [a, b] [] pos2] X.env = (false, eval (.Call (.Name "zip" p2) [a, b] [] pos2) X.env) :: starEach [] X.env := by rfl) :
    PE X (.Call (.Name "list" p) [.Call (.Name "zip" p2) [a, b] [] pos2] [] pos) (tE X.K W (eN lzO fa)) := by
  refine ⟨fun pins s σ H Q I h => ?_⟩
  obtain ⟨ι, env, m, eo, mo, pp⟩ := h
  have h2 : tA X.K W fa σ H (fun vs H1 => ∃ ι1 m1 ws, MemOk X.K ι1 m1 H1 ∧ RelWs X.K ι1 H1 ws vs ∧ Post X.K W0 (RelW X.K) ι1 H1 σ Q (Rs.of (lzO ws m1))) :=
    Post.bind eo mo pp fun ι1 H1 ws xs m1 st1 mo1 eo1 ra p1 => ⟨ι1, m1, ws, mo1, ra, p1.w0⟩
  refine Call_ (ld_blt I hg hm boot_list (callWith_type1 (args_cons (Call_ (ld_blt I hg2 hm2 PyProof.Rows.boot_zip (PyProof.Rows.callWith_type1 (thn (ha.run pos2 pins s σ H _ I h2) fun us s1 ⟨vs, H1, I1, r1, q1⟩ => ?_) hs hpl))) na) na))
  obtain ⟨ι1, m1, ws, mo1, ra, p1⟩ := q1
  unfold lzO at p1
  split at p1
  · rename_i wa wb
    by_cases hk : (isLW wa == isLW wb) = true
    · rw [if_pos hk] at p1
      have hk' : isLW wa = isLW wb := by simpa using hk
      split at p1
      · rename_i xs ys e1 e2
        cases ra with
        | cons ra rr =>
          cases rr with
          | cons rb rr =>
            cases rr
            obtain ⟨aa, va, rfl, ha1, ha2⟩ := seqOf_kind mo1 e1 ra
            obtain ⟨bb, vb, rfl, hb1, hb2⟩ := seqOf_kind mo1 e2 rb
            cases r1 with
            | cons r rr =>
              cases rr with
              | cons r' rr =>
                cases rr
                cases r
                cases r'
                have hseq : (SqL X.K H1 aa va ∧ SqL X.K H1 bb vb) ∨ (SqT X.K H1 aa va ∧ SqT X.K H1 bb vb) := by
                  cases qa : isLW wa with
                  | true =>
                    have qb : isLW wb = true := hk'.symm.trans qa
                    rw [qa] at ha1; rw [qb] at hb1
                    exact .inl ⟨ha1, hb1⟩
                  | false =>
                    have qb : isLW wb = false := hk'.symm.trans qa
                    rw [qa] at ha1; rw [qb] at hb1
                    exact .inr ⟨ha1, hb1⟩
                refine thn (call_list_zip (Q := EP X pins σ Q) (E := X.xe) (I1.ok.hd hc) I1 hseq fun s' H' S0 acc I' hn hS hl hp hg => ?_) fun v s1 h => args_nil h
                have st : Stp ι1 H1 ι1 H' := ⟨List.prefix_refl _, fun c hc1 hc2 => absurd hc1 hc2, fun c o e _ => hg c o e⟩
                have hsame : ∀ c ∈ ι1, H' c = H1 c := fun c hc1 => by
                  cases q : H1 c with
                  | none => exact absurd q (mo1.apart c hc1).2.2
                  | some o => exact hg c o q
                have mo2 := mo1.stay (ι' := ι1) st hsame
                have hnS : S0 ∉ ι1 := mo1.new hn
                have rx' := ha2.step mo1.apart st
                have ry' := hb2.step mo1.apart st
                have rp := pairs_ok rx' ry' hl hp
                have mo3 := mo2.adopt hS hnS rp
                refine ⟨.ref S0, H', I', rfl, p1 (ι1 ++ [S0]) H' (.ref S0) ⟨List.prefix_append _ _, fun c hc1 hc2 => ?_, fun c o e _ => hg c o e⟩ mo3 (.ref ?_)⟩
                · rcases List.mem_append.mp hc1 with q | q
                  · exact absurd q hc2
                  · rw [List.mem_singleton.mp q]; exact hn
                · rw [← mo1.len]; simp
      · exact p1.elim
    · rw [if_neg hk] at p1; exact p1.elim
  · exact p1.elim
end
end DL
set_option Elab.async false
set_option linter.all false
set_option maxRecDepth 100000
set_option maxHeartbeats 2000000
namespace DL
open PySem PySem.Spec PyProof.Rows L2
/-- a def that is known by its denotation -/
def Kn (P : Program) (w : World) (K : PySem.W.Frag) (mg : Str → Option Value) (base : Heap) (k n : Nat) (x : Str) (ps : List Str) (F : Fn) : Prop :=
  ∃ (f : Addr) (fd : FuncData), mg x = some (.ref f) ∧ PySem.W.keepIn K (.ref f) = true ∧ Binds K fd ps [] ∧ FnOk P w K mg base (L2.CX P w) k f fd ps (spD K n F)
theorem Kn.imp {P : Program} {w : World} {K : PySem.W.Frag} {mg : Str → Option Value} {base : Heap} {k n : Nat} {x : Str} {ps : List Str} {F G : Fn} (h : Kn P w K mg base k n x ps F) (i : ∀ ws m, ws.length = n → G ws m = .stuck ∨ F ws m = G ws m) : Kn P w K mg base k n x ps G := by
  obtain ⟨f, fd, h1, h2, h3, h4⟩ := h
  exact ⟨f, fd, h1, h2, h3, h4.imp fun vs H Q E p => spD_imp i p⟩
theorem Kn.mono {P : Program} {w : World} {K : PySem.W.Frag} {mg : Str → Option Value} {base : Heap} {j k n : Nat} {x : Str} {ps : List Str} {F : Fn} (h : Kn P w K mg base j n x ps F) (hk : j ≤ k) : Kn P w K mg base k n x ps F := by
  obtain ⟨f, fd, h1, h2, h3, h4⟩ := h
  exact ⟨f, fd, h1, h2, h3, h4.mono hk⟩
/-- a def of the row, where it stands -/
def Df (K : PySem.W.Frag) (mg : Str → Option Value) (x : Str) (st : Stmt) : Prop := ∃ (f : Addr) (fd : FuncData), mg x = some (.ref f) ∧ FunD K x x (defArgs st) (defBody st) (defScope st) [] [] f fd
section
variable {X : Cx} {W : L2.WX}
theorem de_callK {j k n : Nat} {ps : List Str} {F : Fn} {x : Str} {p pos : Pos} {e : Expr} {es : List Expr} {fa : Em (List Wd)} (c : Kn X.prog X.w X.K X.mg X.base k n x ps F) (tk : Takes X W) (hr : Room j X.A) (hk : k ≤ j) (hg : Gl X x)
    (ha : PA X (e :: es) (tA X.K W fa)) (hdb : (x == ("__debug__" : Str)) = false := by decide) (he : starEach (e :: es) X.env = (false, eval e X.env) :: starEach es X.env := by rfl) (hpl : (backTo pos (starEach es X.env)).any (·.1) = false := by rfl) :
    PE X (.Call (.Name x p) (e :: es) [] pos) (tE X.K W (eCall n F fa)) := by
  obtain ⟨f, fd, h1, h2, h3, h4⟩ := c
  exact de_call tk h4 (hr.mono hk) hg h1 h2 h3 ha hdb he hpl
theorem k_fn {P : Program} {w : World} {K : PySem.W.Frag} {mg : Str → Option Value} {base : Heap} {x : Str} {st : Stmt} {N ps : List Str} {k n j : Nat} {b : Sm} (D : Df K mg x st) (S : FnScope N ps (defScope st)) (hN : N.length = n) (hj : ps.length = j)
    (hbd : ∀ (f : Addr) (fd : FuncData), FunD K x x (defArgs st) (defBody st) (defScope st) [] [] f fd → Binds K fd ps [])
    (hb : ∀ (f : Addr) (cdv : Value) (A : Around) (outer : List PySem.Env) (s : Shared) (H : Hp) (E : XK), Room k (A.deeper (envOfC x (defScope st) s.heap.objs.size f cdv)) → Takes (cxOf (L2.CX P w) P w K mg base N x (defScope st) f cdv A outer s H E) (fun cls d _ H => E cls d H) →
      PassesOwn (model P w) (A.deeper (envOfC x (defScope st) s.heap.objs.size f cdv)) (envOfC x (defScope st) s.heap.objs.size f cdv) (cxOf (L2.CX P w) P w K mg base N x (defScope st) f cdv A outer s H E).xe →
      PSs (cxOf (L2.CX P w) P w K mg base N x (defScope st) f cdv A outer s H E) (defBody st) (tS K (fun cls d _ H => E cls d H) b)) : Kn P w K mg base (k + 1) j x ps (runF n b) := by
  obtain ⟨f, fd, h1, F⟩ := D
  exact ⟨f, fd, h1, F.kp, hbd f fd F, d_fn F S hN hj fun cdv A outer s H E hr tk hp => hb f cdv A outer s H E hr tk hp⟩
end
theorem bt_len : bootBuiltins "len" = some (.builtin "len") := by decide +kernel
theorem bt_abs : bootBuiltins "abs" = some (.builtin "abs") := by decide +kernel
theorem bt_all : bootBuiltins "all" = some (.builtin "all") := by decide +kernel
theorem bt_any : bootBuiltins "any" = some (.builtin "any") := by decide +kernel
theorem bt_sorted : bootBuiltins "sorted" = some (.builtin "sorted") := by decide +kernel
theorem bt_min : bootBuiltins "min" = some (.builtin "min") := by decide +kernel
theorem bt_max : bootBuiltins "max" = some (.builtin "max") := by decide +kernel
theorem bt_sum : bootBuiltins "sum" = some (.builtin "sum") := by decide +kernel
theorem bt_isi : bootBuiltins "isinstance" = some (.builtin "isinstance") := by decide +kernel
theorem bt_int : bootBuiltins "int" = some (.type "int") := by decide +kernel
theorem bt_str : bootBuiltins "str" = some (.type "str") := by decide +kernel
theorem bt_bool : bootBuiltins "bool" = some (.type "bool") := by decide +kernel
theorem bt_list : bootBuiltins "list" = some (.type "list") := by decide +kernel
theorem bt_tuple : bootBuiltins "tuple" = some (.type "tuple") := by decide +kernel
theorem bt_dict : bootBuiltins "dict" = some (.type "dict") := by decide +kernel
end DL
namespace DL
open PySem PySem.Spec PyProof.Rows L2
theorem dt_pw {X : Cx} {e : Expr} {t : TT} (h : PW X e t) : PT X e t := h.pt
end DL
set_option Elab.async false
set_option linter.all false
set_option maxRecDepth 100000
set_option maxHeartbeats 2000000
namespace DL
open PySem PySem.Spec PyProof.Rows L2
/-- the law's walk: errors may fly inside, none leaves -/
theorem walk_D {l : PySem.W.OpenLaw} {n k : Nat} {q : Program} {loose : List Str} {XP : (Str → Option Value) → Heap → Prop} {YP : World → Heap → Prop} {d : DefRec} {x : Str} {F : Fn}
    (hn : l.most = some n) (hn2 : n ≤ sizeLine) (hdf : d.params.defaults = []) (hr : Room k callerA)
    (hF : ∀ (w : World) (mg : Str → Option Value) (fa : Addr) (h : Heap), YP w h → h.Ns mainGlobals mg → mg d.name = some (.ref fa) → ∃ (K : PySem.W.Frag) (fd : FuncData), K.In h ∧ (∀ (s : Shared) (u : Value), BindsTo s fd ⟨[u], []⟩ [(x, u)]) ∧
        ∀ base : Heap, K.In base → base.Ns mainGlobals mg → FnOk l.prog w K mg base (L2.CX l.prog w) k fa fd [x] (spD K 1 F))
    (hP : ∀ ns : List Int, ns.length ≤ n → ∃ m', F [scriptW ns] ⟨[], []⟩ = .ok (.d (.bool true)) m') : PySem.W.WalkO q loose XP YP l.row.toRowW d [] (fun f vs => PySem.call f vs) := by
  refine Att.attach_call hn hdf fun w s₀ s₁ mg mb fa o pm cd doc a vs ns G Y ho hd hcd hmg hobj hints hlen hg => ?_
  obtain ⟨K, fd, KX, hb, hFn⟩ := hF w mg fa _ Y G.T.g hmg
  refine law_call KX G.T.g G.T.b G.T.builtins G.T.nolimit hg hobj hints (Nat.le_trans hlen hn2) hr hFn hb (fun H hO hS => ?_) fun H e s' hh => ?_
  · obtain ⟨m', e⟩ := hP ns hlen
    exact law_end hO hS e
  · obtain ⟨_, _, _, _, _, _, _, _, _, _, _, _, z⟩ := hh
    exact z.elim
end DL
set_option Elab.async false
set_option linter.all false
set_option maxRecDepth 100000
set_option maxHeartbeats 2000000
namespace Hn
open PySem PySem.Spec PyProof.Rows L2 DL 
noncomputable section
/-- _law_bag(script): 0=script 1=cell -/
def b__law_bag : Sm :=
sRet (eN lstO (aC (eC (.d (.int 0))) (aC (eC (.d (.int 1234567891))) (aC (eC (.d (.int 0))) (aC (eLc (iVal (eSl (eV 0) oNone (oSome (eC (.d (.int 63)))))) (.name 1) (fun _ m => .ok true m) (eN absO (aC (eV 1) aN)) [1]) aN)))))
@[irreducible] def N__law_bag : Fn := runF 2 b__law_bag
/-- _law_take(bag, many): 0=bag 1=many 2=cell 3=stirred 4=value 5=begin 6=second -/
def b__law_take : Sm :=
sSeq (sIf (b2 eqO (e2 ixO (eV 0) (eC (.d (.int 0)))) (eC (.d (.int 0))))
(sSeq (sSet 2 (e2 ixO (e2 addO (eSl (e2 ixO (eV 0) (eC (.d (.int 3)))) (oSome (e2 ixO (eV 0) (eC (.d (.int 2))))) oNone) (eN lstO (aC (eC (.d (.int 0))) aN))) (eC (.d (.int 0))))) <|
sSeq (sAugL iaddO (eV 0) (eC (.d (.int 2))) (eC (.d (.int 1)))) <|
sSeq (sIf (b2 geO (eV 2) (e2 powO (eC (.d (.int 10))) (eC (.d (.int 18)))))
(sSub (eV 0) (eC (.d (.int 0))) (eV 2))
(sNop)) <|
sSeq (sSet 3 (e2 addO (e2 addO (e2 mulO (e2 ixO (eV 0) (eC (.d (.int 1)))) (eC (.d (.int 48271)))) (e2 modO (eN intO1 (aC (eV 2) aN)) (eC (.d (.int 2147483647))))) (e2 mulO (eC (.d (.int 7919))) (e2 ixO (eV 0) (eC (.d (.int 2))))))) <|
sSub (eV 0) (eC (.d (.int 1))) (e2 modO (eN intO1 (aC (eV 3) aN)) (eC (.d (.int 2147483647)))))
(sNop)) <|
sSeq (sIf (b2 gtO (e2 ixO (eV 0) (eC (.d (.int 0)))) (eC (.d (.int 0))))
(sSeq (sSet 4 (e2 modO (eN intO1 (aC (e2 ixO (eV 0) (eC (.d (.int 0)))) aN)) (eV 1))) <|
sSeq (sSub (eV 0) (eC (.d (.int 0))) (e2 fdivO (eN intO1 (aC (e2 ixO (eV 0) (eC (.d (.int 0)))) aN)) (eV 1))) <|
sRet (eV 4))
(sNop)) <|
sSeq (sSet 5 (e2 modO (eN intO1 (aC (e2 mulO (e2 addO (e2 ixO (eV 0) (eC (.d (.int 1)))) (eC (.d (.int 1)))) (eC (.d (.int 39373)))) aN)) (eC (.d (.int 1000000007))))) <|
sSeq (sSet 6 (e2 modO (eN intO1 (aC (e2 mulO (e2 modO (eN intO1 (aC (e2 mulO (eV 5) (eV 5)) aN)) (eC (.d (.int 998244353)))) (eC (.d (.int 30011)))) aN)) (eC (.d (.int 998244353))))) <|
sRet (e2 modO (eN intO1 (aC (e2 fdivO (eV 6) (eC (.d (.int 7)))) aN)) (eV 1))
@[irreducible] def N__law_take : Fn := runF 7 b__law_take
/-- _law_some(bag, things): 0=bag 1=things -/
def b__law_some : Sm :=
sRet (e2 ixO (eV 1) (eCall 2 N__law_take (aC (eV 0) (aC (eN lenO (aC (eV 1) aN)) aN))))
@[irreducible] def N__law_some : Fn := runF 2 b__law_some
/-- _law_alike(found, due): 0=found 1=due 2=pairs 3=at 4=one 5=other -/
def b__law_alike : Sm :=
sSeq (sPar [2, 3] (aC (eN lstO (aC (eN tupO (aC (eV 0) (aC (eV 1) aN))) aN)) (aC (eC (.d (.int 0))) aN))) <|
sSeq (sWh (b2 ltO (eV 3) (eN lenO (aC (eV 2) aN)))
(sSeq (sAsg (.tup [.name 4, .name 5]) (e2 ixO (eV 2) (eV 3))) <|
sSeq (sAug 3 iaddO (eC (.d (.int 1)))) <|
sSeq (sIf (bOr (b2 neO (eIsi ["bool"] (eV 4)) (eIsi ["bool"] (eV 5))) (b2 neO (eIsi ["str"] (eV 4)) (eIsi ["str"] (eV 5))))
(sRet (eC (.d (.bool false))))
(sNop)) <|
sSeq (sIf (b2 neO (eIsi ["tuple", "list"] (eV 4)) (eIsi ["tuple", "list"] (eV 5)))
(sRet (eC (.d (.bool false))))
(sNop)) <|
sIf (bV (eIsi ["tuple", "list"] (eV 4)))
(sSeq (sIf (bOr (b2 neO (eIsi ["tuple"] (eV 4)) (eIsi ["tuple"] (eV 5))) (b2 neO (eN lenO (aC (eV 4) aN)) (eN lenO (aC (eV 5) aN))))
(sRet (eC (.d (.bool false))))
(sNop)) <|
sDrop (eM extO (eV 2) (aC (eN lzO (aC (eV 4) (aC (eV 5) aN))) aN)))
(sIf (b2 neO (eV 4) (eV 5))
(sRet (eC (.d (.bool false))))
(sNop)))) <|
sRet (eC (.d (.bool true)))
@[irreducible] def N__law_alike : Fn := runF 6 b__law_alike
end
end Hn
set_option Elab.async false
set_option linter.all false
set_option maxRecDepth 100000
set_option maxHeartbeats 2000000
namespace DL
open PySem PySem.Spec PyProof.Rows L2
/-! ### the plain side: what a denotation gives -/
def wpR {α : Type} (r : Rs α) (Q : α → Mm → Prop) : Prop := match r with
  | .ok a m => Q a m
  | _ => False
def wpO (r : Option (Wd × Mm)) (Q : Wd → Mm → Prop) : Prop := match r with
  | some (w, m) => Q w m
  | none => False
def wpS (r : Sr) (K : Env → Mm → Prop) (Q : Fl → Env → Mm → Prop) : Prop := match r with
  | .go .nx e m => K e m
  | .go f e m => Q f e m
  | _ => False
section
variable {α β : Type} {env : Env} {m : Mm} {Q : Wd → Mm → Prop} {K : Env → Mm → Prop} {QS : Fl → Env → Mm → Prop}
theorem wpR_ok {a : α} {Q : α → Mm → Prop} : wpR (.ok a m) Q ↔ Q a m := Iff.rfl
theorem wpR_bind {r : Rs α} {k : α → Mm → Rs β} {Q : β → Mm → Prop} : wpR (r.bind k) Q ↔ wpR r fun a m => wpR (k a m) Q := by
  cases r <;> exact Iff.rfl
theorem wpR_of {r : Option (Wd × Mm)} : wpR (Rs.of r) Q ↔ wpO r Q := by
  rcases r with _ | ⟨w, m⟩ <;> exact Iff.rfl
theorem wpR_mono {r : Rs α} {P Q : α → Mm → Prop} (h : wpR r P) (i : ∀ a m, P a m → Q a m) : wpR r Q := by
  cases r with
  | ok a m => exact i a m h
  | exc _ _ => exact h.elim
  | stuck => exact h.elim
theorem wpR_eq {r : Rs α} {Q : α → Mm → Prop} (h : wpR r Q) : ∃ a m, r = .ok a m ∧ Q a m := by
  cases r with
  | ok a m => exact ⟨a, m, rfl, h⟩
  | exc _ _ => exact h.elim
  | stuck => exact h.elim
theorem wpO_mono {r : Option (Wd × Mm)} {P Q : Wd → Mm → Prop} (h : wpO r P) (i : ∀ a m, P a m → Q a m) : wpO r Q := by
  rcases r with _ | ⟨w, m⟩
  · exact h.elim
  · exact i w m h
theorem wpS_mono {r : Sr} {K K' : Env → Mm → Prop} {Q Q' : Fl → Env → Mm → Prop} (h : wpS r K Q) (i : ∀ e m, K e m → K' e m) (j : ∀ f e m, f ≠ .nx → Q f e m → Q' f e m) : wpS r K' Q' := by
  cases r with
  | go f e m =>
    cases f with
    | nx => exact i e m h
    | rt w => exact j (.rt w) e m (by simp) h
    | bk => exact j .bk e m (by simp) h
    | ct => exact j .ct e m (by simp) h
  | exc _ _ _ => exact h.elim
  | stuck => exact h.elim
theorem w_C {w : Wd} : wpR (eC w env m) Q ↔ Q w m := Iff.rfl
theorem w_V {i : Nat} : wpR (eV i env m) Q ↔ ∃ w, env[i]? = some (some w) ∧ Q w m := by
  unfold eV
  split
  · rename_i w h
    exact ⟨fun q => ⟨w, h, q⟩, fun ⟨w', h', q⟩ => by rw [h] at h'; cases h'; exact q⟩
  · rename_i h
    exact ⟨fun q => q.elim, fun ⟨w', h', q⟩ => (h w' h').elim⟩
theorem w_aN {Q : List Wd → Mm → Prop} : wpR (aN env m) Q ↔ Q [] m := Iff.rfl
theorem w_aC {f : Em Wd} {g : Em (List Wd)} {Q : List Wd → Mm → Prop} : wpR (aC f g env m) Q ↔ wpR (f env m) fun w m1 => wpR (g env m1) fun ws m2 => Q (w :: ws) m2 := by
  unfold aC; simp only [wpR_bind, wpR_ok]
theorem w_e1 {g : Op1} {f : Em Wd} : wpR (e1 g f env m) Q ↔ wpR (f env m) fun a m1 => wpO (g a m1) Q := by
  unfold e1; simp only [wpR_bind, wpR_of]
theorem w_e2 {g : Op2} {fa fb : Em Wd} : wpR (e2 g fa fb env m) Q ↔ wpR (fa env m) fun a m1 => wpR (fb env m1) fun b m2 => wpO (g a b m2) Q := by
  unfold e2; simp only [wpR_bind, wpR_of]
theorem w_eN {g : OpN} {f : Em (List Wd)} : wpR (eN g f env m) Q ↔ wpR (f env m) fun ws m1 => wpO (g ws m1) Q := by
  unfold eN; simp only [wpR_bind, wpR_of]
theorem w_call {n : Nat} {F : Fn} {f : Em (List Wd)} : wpR (eCall n F f env m) Q ↔ wpR (f env m) fun ws m1 => ws.length = n ∧ wpR (F ws m1) Q := by
  unfold eCall
  rw [wpR_bind]
  constructor <;> refine fun h => wpR_mono h fun ws m1 h1 => ?_
  · by_cases e : ws.length = n
    · rw [if_pos e] at h1; exact ⟨e, h1⟩
    · rw [if_neg e] at h1; exact h1.elim
  · rw [if_pos h1.1]; exact h1.2
theorem w_b2 {g : Op2} {fa fb : Em Wd} {Q : Bool → Mm → Prop} : wpR (b2 g fa fb env m) Q ↔ wpR (fa env m) fun a m1 => wpR (fb env m1) fun b m2 => wpO (g a b m2) fun w m3 => ∃ k, w = .d (.bool k) ∧ Q k m3 := by
  unfold b2
  rw [wpR_bind, w_e2]
  have key : ∀ (w : Wd) (m : Mm), wpR (match asB w with | some b => Rs.ok b m | none => Rs.stuck) Q ↔ ∃ k, w = .d (.bool k) ∧ Q k m := fun w m => by
    cases q : asB w with
    | some b => rw [asB_ok q]; exact ⟨fun h => ⟨b, rfl, h⟩, fun ⟨k, e, h⟩ => by cases e; exact h⟩
    | none => exact ⟨fun h => h.elim, fun ⟨k, e, h⟩ => by subst e; cases q⟩
  constructor <;> exact fun h => wpR_mono h fun a m1 h => wpR_mono h fun b m2 h => wpO_mono h fun w m3 h => by first | exact (key w m3).mp h | exact (key w m3).mpr h
theorem w_bV {f : Em Wd} {Q : Bool → Mm → Prop} : wpR (bV f env m) Q ↔ wpR (f env m) fun w m1 => ∃ k, truO w m1 = some k ∧ Q k m1 := by
  unfold bV
  rw [wpR_bind]
  have key : ∀ (w : Wd) (m : Mm), wpR (match truO w m with | some b => Rs.ok b m | none => Rs.stuck) Q ↔ ∃ k, truO w m = some k ∧ Q k m := fun w m => by
    cases q : truO w m with
    | some b => exact ⟨fun h => ⟨b, rfl, h⟩, fun ⟨k, e, h⟩ => by cases e; exact h⟩
    | none => exact ⟨fun h => h.elim, fun ⟨k, e, h⟩ => by cases e⟩
  constructor <;> exact fun h => wpR_mono h fun w m1 h => by first | exact (key w m1).mp h | exact (key w m1).mpr h
theorem w_bAnd {f g : Em Bool} {Q : Bool → Mm → Prop} : wpR (bAnd f g env m) Q ↔ wpR (f env m) fun b m1 => if b = true then wpR (g env m1) Q else Q false m1 := by
  unfold bAnd
  rw [wpR_bind]
  constructor <;> refine fun h => wpR_mono h fun b m1 h => ?_ <;> (cases b <;> exact h)
theorem w_bOr {f g : Em Bool} {Q : Bool → Mm → Prop} : wpR (bOr f g env m) Q ↔ wpR (f env m) fun b m1 => if b = true then Q true m1 else wpR (g env m1) Q := by
  unfold bOr
  rw [wpR_bind]
  constructor <;> refine fun h => wpR_mono h fun b m1 h => ?_ <;> (cases b <;> exact h)
theorem w_bNot {f : Em Bool} {Q : Bool → Mm → Prop} : wpR (bNot f env m) Q ↔ wpR (f env m) fun b m1 => Q (!b) m1 := by
  unfold bNot
  rw [wpR_bind]; rfl
theorem w_eIf {c : Em Bool} {f g : Em Wd} : wpR (eIf c f g env m) Q ↔ wpR (c env m) fun b m1 => if b = true then wpR (f env m1) Q else wpR (g env m1) Q := by
  unfold eIf
  rw [wpR_bind]
  constructor <;> refine fun h => wpR_mono h fun b m1 h => ?_ <;> (cases b <;> exact h)
theorem w_eAnd {f g : Em Wd} : wpR (eAnd f g env m) Q ↔ wpR (f env m) fun w m1 => ∃ k, truO w m1 = some k ∧ if k = true then wpR (g env m1) Q else Q w m1 := by
  unfold eAnd
  rw [wpR_bind]
  constructor <;> refine fun h => wpR_mono h fun w m1 h => ?_
  · cases q : truO w m1 with
    | some b =>
      rw [q] at h
      refine ⟨b, rfl, ?_⟩
      cases b <;> exact h
    | none => rw [q] at h; exact h.elim
  · obtain ⟨k, e, h⟩ := h
    rw [e]
    cases k <;> exact h
theorem w_eOr {f g : Em Wd} : wpR (eOr f g env m) Q ↔ wpR (f env m) fun w m1 => ∃ k, truO w m1 = some k ∧ if k = true then Q w m1 else wpR (g env m1) Q := by
  unfold eOr
  rw [wpR_bind]
  constructor <;> refine fun h => wpR_mono h fun w m1 h => ?_
  · cases q : truO w m1 with
    | some b =>
      rw [q] at h
      refine ⟨b, rfl, ?_⟩
      cases b <;> exact h
    | none => rw [q] at h; exact h.elim
  · obtain ⟨k, e, h⟩ := h
    rw [e]
    cases k <;> exact h
theorem w_eNot {f : Em Wd} : wpR (eNot f env m) Q ↔ wpR (f env m) fun w m1 => ∃ k, truO w m1 = some k ∧ Q (.d (.bool (!k))) m1 := by
  unfold eNot
  rw [wpR_bind]
  constructor <;> refine fun h => wpR_mono h fun w m1 h => ?_
  · cases q : truO w m1 with
    | some b => rw [q] at h; exact ⟨b, rfl, h⟩
    | none => rw [q] at h; exact h.elim
  · obtain ⟨k, e, h⟩ := h
    rw [e]; exact h
theorem w_eCh {g g' : Op2} {fa fb fc : Em Wd} : wpR (eCh g g' fa fb fc env m) Q ↔ wpR (fa env m) fun a m1 => wpR (fb env m1) fun b m2 => wpO (g a b m2) fun z m3 => ∃ k, z = .d (.bool k) ∧ if k = true then wpR (fc env m3) fun c m4 => wpO (g' b c m4) Q else Q (.d (.bool false)) m3 := by
  unfold eCh
  simp only [wpR_bind, wpR_of]
  have key : ∀ (b w : Wd) (m : Mm), wpR (match asB w with | some k => if k = true then (fc env m).bind fun c m => Rs.of (g' b c m) else Rs.ok (.d (.bool false)) m | none => Rs.stuck) Q ↔ ∃ k, w = .d (.bool k) ∧ if k = true then wpR (fc env m) fun c m4 => wpO (g' b c m4) Q else Q (.d (.bool false)) m := fun b w m => by
    cases q : asB w with
    | some k =>
      rw [asB_ok q]
      constructor
      · intro h
        refine ⟨k, rfl, ?_⟩
        cases k with
        | false => exact h
        | true =>
          have h' : wpR ((fc env m).bind fun c m => Rs.of (g' b c m)) Q := h
          simp only [wpR_bind, wpR_of] at h'
          exact h'
      · rintro ⟨k', e, h⟩
        cases e
        cases k with
        | false => exact h
        | true =>
          show wpR ((fc env m).bind fun c m => Rs.of (g' b c m)) Q
          simp only [wpR_bind, wpR_of]
          exact h
    | none => exact ⟨fun h => h.elim, fun ⟨k, e, h⟩ => by subst e; cases q⟩
  constructor <;> exact fun h => wpR_mono h fun a m1 h => wpR_mono h fun b m2 h => wpO_mono h fun w m3 h => by first | exact (key b w m3).mp h | exact (key b w m3).mpr h
theorem w_bCh {g g' : Op2} {fa fb fc : Em Wd} {Q : Bool → Mm → Prop} : wpR (bCh g g' fa fb fc env m) Q ↔ wpR (eCh g g' fa fb fc env m) fun w m1 => ∃ k, w = .d (.bool k) ∧ Q k m1 := by
  unfold bCh
  rw [wpR_bind]
  have key : ∀ (w : Wd) (m : Mm), wpR (match asB w with | some b => Rs.ok b m | none => Rs.stuck) Q ↔ ∃ k, w = .d (.bool k) ∧ Q k m := fun w m => by
    cases q : asB w with
    | some b => rw [asB_ok q]; exact ⟨fun h => ⟨b, rfl, h⟩, fun ⟨k, e, h⟩ => by cases e; exact h⟩
    | none => exact ⟨fun h => h.elim, fun ⟨k, e, h⟩ => by subst e; cases q⟩
  constructor <;> exact fun h => wpR_mono h fun w m3 h => by first | exact (key w m3).mp h | exact (key w m3).mpr h
theorem w_oN {Q : Option Int → Mm → Prop} : wpR (oNone env m) Q ↔ Q none m := Iff.rfl
theorem w_oS {f : Em Wd} {Q : Option Int → Mm → Prop} : wpR (oSome f env m) Q ↔ wpR (f env m) fun w m1 => ∃ i, w = .d (.int i) ∧ Q (some i) m1 := by
  unfold oSome
  rw [wpR_bind]
  constructor <;> refine fun h => wpR_mono h fun w m1 h => ?_
  · split at h
    · rename_i i
      exact ⟨i, rfl, h⟩
    · exact h.elim
  · obtain ⟨i, e, h⟩ := h
    subst e; exact h
theorem w_sl {f : Em Wd} {lo hi : Eo} : wpR (eSl f lo hi env m) Q ↔ wpR (f env m) fun w m1 => wpR (lo env m1) fun l m2 => wpR (hi env m2) fun h m3 => wpO (slO w l h m3) Q := by
  unfold eSl; simp only [wpR_bind, wpR_of]
theorem w_eIsi {Ts : List String} {f : Em Wd} : wpR (eIsi Ts f env m) Q ↔ wpR (f env m) fun w m1 => ∃ a, tyName m1 w = some a ∧ Q (.d (.bool (Ts.any (isT a)))) m1 := by
  unfold eIsi
  rw [w_e1]
  constructor <;> refine fun h => wpR_mono h fun w m1 h => ?_
  · unfold isiO at h
    cases q : tyName m1 w with
    | some a => rw [q] at h; exact ⟨a, rfl, h⟩
    | none => rw [q] at h; exact h.elim
  · obtain ⟨a, e, h⟩ := h
    unfold isiO
    rw [e]; exact h
/-! statements -/
theorem wpS_rs {r : Rs α} {k : α → Mm → Sr} : wpS (rs r env k) K QS ↔ wpR r fun a m1 => wpS (k a m1) K QS := by
  cases r <;> exact Iff.rfl
theorem w_seq {f g : Sm} : wpS (sSeq f g env m) K QS ↔ wpS (f env m) (fun e m1 => wpS (g e m1) K QS) QS := by
  unfold sSeq
  cases f env m with
  | go fl e m1 => cases fl <;> exact Iff.rfl
  | exc _ _ _ => exact Iff.rfl
  | stuck => exact Iff.rfl
theorem w_nop : wpS (sNop env m) K QS ↔ K env m := Iff.rfl
theorem w_drop {f : Em Wd} : wpS (sDrop f env m) K QS ↔ wpR (f env m) fun _ m1 => K env m1 := by unfold sDrop; rw [wpS_rs]; rfl
theorem w_ret {f : Em Wd} : wpS (sRet f env m) K QS ↔ wpR (f env m) fun w m1 => QS (.rt w) env m1 := by unfold sRet; rw [wpS_rs]; rfl
theorem w_retN : wpS (sRetN env m) K QS ↔ QS (.rt (.d .none)) env m := Iff.rfl
theorem w_bk : wpS (sBk env m) K QS ↔ QS .bk env m := Iff.rfl
theorem w_ct : wpS (sCt env m) K QS ↔ QS .ct env m := Iff.rfl
theorem w_if {c : Em Bool} {f g : Sm} : wpS (sIf c f g env m) K QS ↔ wpR (c env m) fun b m1 => if b = true then wpS (f env m1) K QS else wpS (g env m1) K QS := by
  unfold sIf
  rw [wpS_rs]
  constructor <;> refine fun h => wpR_mono h fun b m1 h => ?_ <;> (cases b <;> exact h)
theorem w_set {i : Nat} {f : Em Wd} : wpS (sSet i f env m) K QS ↔ wpR (f env m) fun w m1 => K (env.set i (some w)) m1 := by unfold sSet; rw [wpS_rs]; rfl
theorem w_asg {t : Tg} {f : Em Wd} : wpS (sAsg t f env m) K QS ↔ wpR (f env m) fun w m1 => ∃ e, t.put w env = some e ∧ K e m1 := by
  unfold sAsg
  rw [wpS_rs]
  constructor <;> refine fun h => wpR_mono h fun w m1 h => ?_
  · cases q : t.put w env with
    | some e => rw [q] at h; exact ⟨e, rfl, h⟩
    | none => rw [q] at h; exact h.elim
  · obtain ⟨e, q, h⟩ := h
    rw [q]; exact h
theorem w_par {is : List Nat} {f : Em (List Wd)} : wpS (sPar is f env m) K QS ↔ wpR (f env m) fun ws m1 => ∃ e, setsE is ws env = some e ∧ K e m1 := by
  unfold sPar
  rw [wpS_rs]
  constructor <;> refine fun h => wpR_mono h fun w m1 h => ?_
  · cases q : setsE is w env with
    | some e => rw [q] at h; exact ⟨e, rfl, h⟩
    | none => rw [q] at h; exact h.elim
  · obtain ⟨e, q, h⟩ := h
    rw [q]; exact h
theorem w_sub {fo fi fv : Em Wd} : wpS (sSub fo fi fv env m) K QS ↔ wpR (fv env m) fun v m1 => wpR (fo env m1) fun o m2 => wpR (fi env m2) fun i m3 => ∃ m4, setO o i v m3 = some m4 ∧ K env m4 := by
  unfold sSub
  simp only [wpS_rs]
  constructor <;> refine fun h => wpR_mono h fun v m1 h => wpR_mono h fun o m2 h => wpR_mono h fun i m3 h => ?_
  · cases q : setO o i v m3 with
    | some e => rw [q] at h; exact ⟨e, rfl, h⟩
    | none => rw [q] at h; exact h.elim
  · obtain ⟨e, q, h⟩ := h
    rw [q]; exact h
theorem w_aug {i : Nat} {g : Op2} {f : Em Wd} : wpS (sAug i g f env m) K QS ↔ ∃ x, env[i]? = some (some x) ∧ wpR (f env m) fun y m1 => wpO (g x y m1) fun z m2 => K (env.set i (some z)) m2 := by
  unfold sAug
  split
  · rename_i x h
    simp only [wpS_rs, wpR_of]
    exact ⟨fun q => ⟨x, h, q⟩, fun ⟨x', e, q⟩ => by rw [h] at e; cases e; exact q⟩
  · rename_i h
    exact ⟨fun q => q.elim, fun ⟨x', e, q⟩ => (h x' e).elim⟩
theorem w_augL {g : Op2} {fo fi fv : Em Wd} : wpS (sAugL g fo fi fv env m) K QS ↔ wpR (fo env m) fun o m1 => wpR (fi env m1) fun i m2 => ∃ x, ixLO o i m2 = some x ∧ wpR (fv env m2) fun y m3 => wpO (g x y m3) fun z m4 => ∃ m5, setO o i z m4 = some m5 ∧ K env m5 := by
  unfold sAugL
  simp only [wpS_rs]
  constructor <;> refine fun h => wpR_mono h fun o m1 h => wpR_mono h fun i m2 h => ?_
  · cases q : ixLO o i m2 with
    | none => rw [q] at h; exact h.elim
    | some x =>
      rw [q] at h
      refine ⟨x, rfl, ?_⟩
      simp only [wpS_rs, wpR_of] at h
      refine wpR_mono h fun y m3 h => wpO_mono h fun z m4 h => ?_
      cases q : setO o i z m4 with
      | some e => rw [q] at h; exact ⟨e, rfl, h⟩
      | none => rw [q] at h; exact h.elim
  · obtain ⟨x, e, h⟩ := h
    rw [e]
    simp only [wpS_rs, wpR_of]
    refine wpR_mono h fun y m3 h => wpO_mono h fun z m4 h => ?_
    obtain ⟨e, q, h⟩ := h
    rw [q]; exact h
theorem w_method {g : Wd → List Wd → Mm → Option (Wd × Mm)} {f : Em Wd} {fa : Em (List Wd)} : wpR (eM g f fa env m) Q ↔ wpR (f env m) fun w m1 => ∃ n xs, w = .ref n ∧ m1.cells[n]? = some (.lst xs) ∧ wpR (fa env m1) fun ws m2 => wpO (g w ws m2) Q := by
  unfold eM
  rw [wpR_bind]
  constructor <;> refine fun h => wpR_mono h fun w m1 h => ?_
  · split at h
    · rename_i n
      split at h
      · rename_i xs e
        simp only [wpR_bind, wpR_of] at h
        exact ⟨n, xs, rfl, e, h⟩
      · exact h.elim
    · exact h.elim
  · obtain ⟨n, xs, rfl, e, h⟩ := h
    simp only [e, wpR_bind, wpR_of]
    exact h
end
end DL
set_option Elab.async false
set_option linter.all false
set_option maxRecDepth 100000
set_option maxHeartbeats 2000000
namespace DL
open PySem PySem.Spec PyProof.Rows L2
/-! ### cells that stand, a frame -/
def Has (m : Mm) (n : Nat) (c : Cell) : Prop := m.cells[n]? = some c
/-- what stood before stands, but for the cells in S -/
structure Fr (S : List Nat) (m m' : Mm) : Prop where
  le : m.cells.length ≤ m'.cells.length
  eq : ∀ j, j < m.cells.length → j ∉ S → m'.cells[j]? = m.cells[j]?
/-- behind a scope's end -/
structure Cl (n0 : Nat) (held : Bool) (m m' : Mm) : Prop where
  le : n0 ≤ m.cells.length → n0 ≤ m'.cells.length
  eq : ∀ j, j < n0 → m'.cells[j]? = m.cells[j]?
  same : held = false → m'.cells = m.cells
section
variable {m m' m1 m2 : Mm} {S S' : List Nat} {n k : Nat} {c c' : Cell}
theorem Has.lt (h : Has m n c) : n < m.cells.length := (List.getElem?_eq_some_iff.mp h).1
theorem Has.inj (h : Has m n c) (h' : Has m n c') : c = c' := Option.some.inj (h.symm.trans h')
theorem Fr.refl : Fr S m m := ⟨Nat.le_refl _, fun _ _ _ => rfl⟩
theorem Fr.trans (a : Fr S m m1) (b : Fr S m1 m2) : Fr S m m2 := ⟨Nat.le_trans a.le b.le, fun j h n => (b.eq j (Nat.lt_of_lt_of_le h a.le) n).trans (a.eq j h n)⟩
theorem Fr.sub (a : Fr S m m') (h : ∀ j ∈ S, j ∈ S' ∨ m.cells.length ≤ j) : Fr S' m m' := ⟨a.le, fun j hj n => a.eq j hj fun x => by rcases h j x with q | q; exact n q; omega⟩
theorem Fr.any (a : Fr [] m m') : Fr S m m' := ⟨a.le, fun j hj _ => a.eq j hj (by simp)⟩
theorem Fr.has (a : Fr S m m') (h : Has m n c) (hn : n ∉ S := by simp) : Has m' n c := (a.eq n h.lt hn).trans h
theorem Fr.cl {b : Bool} (a : Fr S m m1) (h : Cl m.cells.length b m1 m2) : Fr S m m2 := ⟨h.le a.le, fun j hj hn => (h.eq j hj).trans (a.eq j hj hn)⟩
theorem fr_push : Fr S m (m.push c) := ⟨by simp [Mm.push], fun j hj _ => by show (m.cells ++ [c])[j]? = _; rw [List.getElem?_append_left hj]⟩
theorem has_push : Has (m.push c) m.cells.length c := by show (m.cells ++ [c])[_]? = _; rw [List.getElem?_append_right (Nat.le_refl _)]; simp
theorem Has.push (h : Has m n c) : Has (m.push c') n c := (fr_push (S := [])).has h
theorem fr_put {p : Bool} (h : n ∈ S) : Fr S m (m.put n c p) := ⟨by simp [Mm.put], fun j hj hn => by
  show (m.cells.set n c)[j]? = _
  exact List.getElem?_set_ne fun (e : n = j) => hn (by rw [← e]; exact h)⟩
theorem has_put {p : Bool} (h : n < m.cells.length) : Has (m.put n c p) n c := by show (m.cells.set n c)[n]? = _; rw [List.getElem?_set_self h]
theorem Has.put {p : Bool} (h : Has m n c) (hn : k ≠ n) : Has (m.put k c' p) n c := by show (m.cells.set k c')[n]? = _; rw [List.getElem?_set_ne hn]; exact h
theorem fr_open : Fr S m m.openS := ⟨Nat.le_refl _, fun _ _ _ => rfl⟩
theorem Has.open (h : Has m n c) : Has m.openS n c := h
theorem Fr.of_open (h : Fr S m.openS m') : Fr S m m' := ⟨h.le, h.eq⟩
theorem cl_close {n0 : Nat} {b : Bool} : Cl n0 b m (m.closeS n0 b) := by
  unfold Mm.closeS
  split
  · exact ⟨fun h => h, fun _ _ => rfl, fun _ => rfl⟩
  · rename_i b0 ds r e
    split
    · rename_i h
      simp only [Bool.and_eq_true, decide_eq_true_eq] at h
      refine ⟨fun h2 => by simp; omega, fun j hj => ?_, fun hb => ?_⟩
      · show (m.cells.take n0)[j]? = _
        rw [List.getElem?_take_of_lt hj]
      · rw [hb] at h
        exact absurd h.1.2 (by decide)
    · exact ⟨fun h => h, fun _ _ => rfl, fun _ => rfl⟩
end
section
variable {env : Env} {m : Mm} {Q : Wd → Mm → Prop} {K : Env → Mm → Prop} {QS : Fl → Env → Mm → Prop}
theorem w_run {n : Nat} {b : Sm} {ws : List Wd} (h : wpS (b (startE n ws) m.openS) (fun _ m1 => ∀ m2, Cl m.cells.length true m1 m2 → Q (.d .none) m2) (fun f _ m1 => ∃ w, f = .rt w ∧ ∀ m2, Cl m.cells.length (w.lt m.cells.length) m1 m2 → Q w m2)) : wpR (runF n b ws m) Q := by
  unfold runF
  cases q : b (startE n ws) m.openS with
  | go f e m1 =>
    rw [q] at h
    cases f with
    | nx => exact h _ cl_close
    | rt w => obtain ⟨w', e', h⟩ := h; cases e'; exact h _ cl_close
    | bk => obtain ⟨w', e', h⟩ := h; cases e'
    | ct => obtain ⟨w', e', h⟩ := h; cases e'
  | exc _ _ _ => rw [q] at h; exact h.elim
  | stuck => rw [q] at h; exact h.elim
/-- a loop's other ends -/
def brk (K : Env → Mm → Prop) (C : Env → Mm → Prop) (QS : Fl → Env → Mm → Prop) : Fl → Env → Mm → Prop
  | .ct => C
  | .bk => K
  | f => QS f
theorem w_while {c : Em Bool} {b : Sm} (I : Nat → Env → Mm → Prop) (hs : ∀ k e m, I k e m → wpR (c e m) fun t m1 => if t = true then wpS (b e m1) (fun e' m' => ∃ k', k' < k ∧ I k' e' m') (brk K (fun e' m' => ∃ k', k' < k ∧ I k' e' m') QS) else K e m1) :
    ∀ (k : Nat) (env : Env) (m : Mm), I k env m → wpS (sWh c b env m) K QS := by
  intro k
  induction k using Nat.strongRecOn with
  | _ k ih =>
    intro env m h0
    rw [sWh_unf, wpS_rs]
    refine wpR_mono (hs k env m h0) fun t m1 h => ?_
    cases t with
    | false => exact h
    | true =>
      rw [if_pos rfl] at h ⊢
      cases q : b env m1 with
      | go f e m2 =>
        rw [q] at h
        cases f with
        | nx => obtain ⟨k', hk, h⟩ := h; exact ih k' hk e m2 h
        | ct => obtain ⟨k', hk, h⟩ := h; exact ih k' hk e m2 h
        | bk => exact h
        | rt w => exact h
      | exc _ _ _ => rw [q] at h; exact h.elim
      | stuck => rw [q] at h; exact h.elim
theorem w_for {s : Em (List Wd × Gd)} {t : Tg} {b : Sm} : wpS (sFor s t b env m) K QS ↔ wpR (s env m) fun p m1 => wpS (forL t b p.2 p.1 env m1) K QS := by unfold sFor; rw [wpS_rs]
theorem w_forL {t : Tg} {b : Sm} {gd : Gd} (I : Nat → Env → Mm → Prop) (xs : List Wd) (hg : ∀ k e m, I k e m → gdOk gd m = true) (hs : ∀ k e m w, xs[k]? = some w → I k e m → ∃ e', t.put w e = some e' ∧ wpS (b e' m) (I (k + 1)) (brk K (I (k + 1)) QS)) (hd : ∀ e m, I xs.length e m → K e m) :
    ∀ (ys : List Wd) (k : Nat) (env : Env) (m : Mm), xs.drop k = ys → k + ys.length = xs.length → I k env m → wpS (forL t b gd ys env m) K QS
  | [], k, env, m, e, hl, h => by
    unfold forL
    rw [if_pos (hg k env m h)]
    have : k = xs.length := by simpa using hl
    subst this
    exact hd env m h
  | w :: ys, k, env, m, e, hl, h => by
    unfold forL
    rw [if_pos (hg k env m h)]
    have hw : xs[k]? = some w := by
      have : (xs.drop k)[0]? = some w := by rw [e]; rfl
      rwa [List.getElem?_drop, Nat.add_zero] at this
    have e2 : xs.drop (k + 1) = ys := by rw [← List.drop_drop, e]; rfl
    obtain ⟨e', q, hb⟩ := hs k env m w hw h
    rw [q]
    simp only []
    have ih := fun env m h => w_forL I xs hg hs hd ys (k + 1) env m e2 (by simp at hl; omega) h
    cases qb : b e' m with
    | go f e3 m3 =>
      rw [qb] at hb
      cases f with
      | nx => exact ih e3 m3 hb
      | ct => exact ih e3 m3 hb
      | bk => exact hb
      | rt w => exact hb
    | exc _ _ _ => rw [qb] at hb; exact hb.elim
    | stuck => rw [qb] at hb; exact hb.elim
theorem w_for0 {t : Tg} {b : Sm} {gd : Gd} (I : Nat → Env → Mm → Prop) {xs : List Wd} (h0 : I 0 env m) (hg : ∀ k e m, I k e m → gdOk gd m = true) (hs : ∀ k e m w, xs[k]? = some w → I k e m → ∃ e', t.put w e = some e' ∧ wpS (b e' m) (I (k + 1)) (brk K (I (k + 1)) QS)) (hd : ∀ e m, I xs.length e m → K e m) :
    wpS (forL t b gd xs env m) K QS := w_forL I xs hg hs hd xs 0 env m (by simp) (by simp) h0
theorem w_lcL {t : Tg} {c : Em Bool} {f : Em Wd} {gd : Gd} {e0 : Env} (I : Nat → List Wd → Mm → Prop) (xs : List Wd) (hg : ∀ k acc m, I k acc m → gdOk gd m = true)
    (hs : ∀ k acc m w, xs[k]? = some w → I k acc m → ∃ e, t.put w e0 = some e ∧ wpR (c e m) fun b m2 => if b = true then wpR (f e m2) fun x m3 => acc.length < LIM ∧ I (k + 1) (acc ++ [x]) m3 else I (k + 1) acc m2) :
    ∀ (ys : List Wd) (k : Nat) (acc : List Wd) (m : Mm), xs.drop k = ys → k + ys.length = xs.length → I k acc m → wpR (lcL t c f gd e0 ys acc m) (I xs.length)
  | [], k, acc, m, e, hl, h => by
    unfold lcL
    rw [if_pos (hg k acc m h)]
    have : k = xs.length := by simpa using hl
    subst this
    exact h
  | w :: ys, k, acc, m, e, hl, h => by
    unfold lcL
    rw [if_pos (hg k acc m h)]
    have hw : xs[k]? = some w := by
      have : (xs.drop k)[0]? = some w := by rw [e]; rfl
      rwa [List.getElem?_drop, Nat.add_zero] at this
    have e2 : xs.drop (k + 1) = ys := by rw [← List.drop_drop, e]; rfl
    obtain ⟨e', q, hb⟩ := hs k acc m w hw h
    have ih := fun acc m h => w_lcL I xs hg hs ys (k + 1) acc m e2 (by simp at hl; omega) h
    rw [q]
    simp only [wpR_bind]
    refine wpR_mono hb fun b m2 h => ?_
    cases b with
    | false => exact ih acc m2 h
    | true =>
      rw [if_pos rfl] at h ⊢
      rw [wpR_bind]
      refine wpR_mono h fun x m3 h => ?_
      rw [if_pos h.1]
      exact ih _ m3 h.2
theorem w_lc {s : Em (List Wd × Gd)} {t : Tg} {c : Em Bool} {f : Em Wd} {own : List Nat} : wpR (eLc s t c f own env m) Q ↔ wpR (s env m) fun p m1 => wpR (lcL t c f p.2 (forget own env) p.1 [] m1) fun acc m2 => Q (.ref m2.cells.length) (m2.push (.lst acc)) := by
  unfold eLc
  rw [wpR_bind]
  constructor <;> refine fun h => wpR_mono h fun p m1 h => ?_
  · cases q : lcL t c f p.2 (forget own env) p.1 [] m1 with
    | ok acc m2 => rw [q] at h; exact h
    | exc _ _ => rw [q] at h; exact h.elim
    | stuck => rw [q] at h; exact h.elim
  · cases q : lcL t c f p.2 (forget own env) p.1 [] m1 with
    | ok acc m2 => rw [q] at h; exact h
    | exc _ _ => rw [q] at h; exact h.elim
    | stuck => rw [q] at h; exact h.elim
theorem w_lc0 {t : Tg} {c : Em Bool} {f : Em Wd} {gd : Gd} {e0 : Env} (I : Nat → List Wd → Mm → Prop) {xs : List Wd} {R : List Wd → Mm → Prop} (h0 : I 0 [] m) (hg : ∀ k acc m, I k acc m → gdOk gd m = true)
    (hs : ∀ k acc m w, xs[k]? = some w → I k acc m → ∃ e, t.put w e0 = some e ∧ wpR (c e m) fun b m2 => if b = true then wpR (f e m2) fun x m3 => acc.length < LIM ∧ I (k + 1) (acc ++ [x]) m3 else I (k + 1) acc m2)
    (hd : ∀ acc m, I xs.length acc m → R acc m) : wpR (lcL t c f gd e0 xs [] m) R := wpR_mono (w_lcL I xs hg hs xs 0 [] m (by simp) (by simp) h0) hd
theorem w_val {f : Em Wd} {Q : List Wd × Gd → Mm → Prop} : wpR (iVal f env m) Q ↔ wpR (f env m) fun w m1 => wpR (iVal (eC w) env m1) Q := by
  unfold iVal
  rw [wpR_bind]
  constructor <;> exact fun h => wpR_mono h fun w m1 h => h
theorem w_ran1 {f : Em (List Wd)} {Q : List Wd × Gd → Mm → Prop} : wpR (iRan1 f env m) Q ↔ wpR (f env m) fun ws m1 => ∃ j, ws = [.d (.int j)] ∧ range62 j = true ∧ Q (intsFrom 0 j.toNat, []) m1 := by
  unfold iRan1
  rw [wpR_bind]
  constructor <;> refine fun h => wpR_mono h fun ws m1 h => ?_
  · split at h
    · rename_i j
      by_cases q : range62 j = true
      · rw [if_pos q] at h; exact ⟨j, rfl, q, h⟩
      · rw [if_neg q] at h; exact h.elim
    · exact h.elim
  · obtain ⟨j, e, q, h⟩ := h
    subst e
    simp only [if_pos q]
    exact h
theorem w_ran2 {f : Em (List Wd)} {Q : List Wd × Gd → Mm → Prop} : wpR (iRan2 f env m) Q ↔ wpR (f env m) fun ws m1 => ∃ i j, ws = [.d (.int i), .d (.int j)] ∧ (range62 i && range62 j) = true ∧ Q (intsFrom i (j - i).toNat, []) m1 := by
  unfold iRan2
  rw [wpR_bind]
  constructor <;> refine fun h => wpR_mono h fun ws m1 h => ?_
  · split at h
    · rename_i i j
      by_cases q : (range62 i && range62 j) = true
      · rw [if_pos q] at h; exact ⟨i, j, rfl, q, h⟩
      · rw [if_neg q] at h; exact h.elim
    · exact h.elim
  · obtain ⟨i, j, e, q, h⟩ := h
    subst e
    simp only [if_pos q]
    exact h
theorem w_dcL {t : Tg} {c : Em Bool} {fk fv : Em Wd} {gd : Gd} {e0 : Env} (I : Nat → List (PyData × Wd) → Mm → Prop) (xs : List Wd) (hg : ∀ k acc m, I k acc m → gdOk gd m = true)
    (hs : ∀ k acc m w, xs[k]? = some w → I k acc m → ∃ e, t.put w e0 = some e ∧ wpR (c e m) fun b m2 => if b = true then wpR (fk e m2) fun y m3 => wpR (fv e m3) fun x m4 => ∃ ky, keyW y = some ky ∧ acc.length < LIM ∧ I (k + 1) (putW acc ky x) m4 else I (k + 1) acc m2) :
    ∀ (ys : List Wd) (k : Nat) (acc : List (PyData × Wd)) (m : Mm), xs.drop k = ys → k + ys.length = xs.length → I k acc m → wpR (dcL t c fk fv gd e0 ys acc m) (I xs.length)
  | [], k, acc, m, e, hl, h => by
    unfold dcL
    rw [if_pos (hg k acc m h)]
    have : k = xs.length := by simpa using hl
    subst this
    exact h
  | w :: ys, k, acc, m, e, hl, h => by
    unfold dcL
    rw [if_pos (hg k acc m h)]
    have hw : xs[k]? = some w := by
      have : (xs.drop k)[0]? = some w := by rw [e]; rfl
      rwa [List.getElem?_drop, Nat.add_zero] at this
    have e2 : xs.drop (k + 1) = ys := by rw [← List.drop_drop, e]; rfl
    obtain ⟨e', q, hb⟩ := hs k acc m w hw h
    have ih := fun acc m h => w_dcL I xs hg hs ys (k + 1) acc m e2 (by simp at hl; omega) h
    rw [q]
    simp only [wpR_bind]
    refine wpR_mono hb fun b m2 h => ?_
    cases b with
    | false => exact ih acc m2 h
    | true =>
      rw [if_pos rfl] at h ⊢
      rw [wpR_bind]
      refine wpR_mono h fun y m3 h => ?_
      rw [wpR_bind]
      refine wpR_mono h fun x m4 h => ?_
      obtain ⟨ky, e3, hl3, h⟩ := h
      rw [e3]
      simp only [if_pos hl3]
      exact ih _ m4 h
theorem w_dc {s : Em (List Wd × Gd)} {t : Tg} {c : Em Bool} {fk fv : Em Wd} {own : List Nat} : wpR (eDc s t c fk fv own env m) Q ↔ wpR (s env m) fun p m1 => wpR (dcL t c fk fv p.2 (forget own env) p.1 [] m1) fun acc m2 => Q (.ref m2.cells.length) (m2.push (.dct acc)) := by
  unfold eDc
  rw [wpR_bind]
  constructor <;> refine fun h => wpR_mono h fun p m1 h => ?_
  · cases q : dcL t c fk fv p.2 (forget own env) p.1 [] m1 with
    | ok acc m2 => rw [q] at h; exact h
    | exc _ _ => rw [q] at h; exact h.elim
    | stuck => rw [q] at h; exact h.elim
  · cases q : dcL t c fk fv p.2 (forget own env) p.1 [] m1 with
    | ok acc m2 => rw [q] at h; exact h
    | exc _ _ => rw [q] at h; exact h.elim
    | stuck => rw [q] at h; exact h.elim
end
end DL
set_option Elab.async false
set_option linter.all false
set_option maxRecDepth 100000
set_option maxHeartbeats 2000000
namespace DL
open PySem PySem.Spec PyProof.Rows L2
theorem w_cut {env : DL.Env} {m : Mm} {f g : Sm} {K K1 : DL.Env → Mm → Prop} {Q : Fl → DL.Env → Mm → Prop} (h : wpS (f env m) K1 Q) (h2 : ∀ e m1, K1 e m1 → wpS (g e m1) K Q) : wpS (sSeq f g env m) K Q :=
  w_seq.mpr (wpS_mono h h2 fun _ _ _ _ q => q)
section
variable {m : Mm} {Q : Wd → Mm → Prop} {a b : Int} {n : Nat} {xs ys : List Wd}
theorem o1_add : wpO (addO (.d (.int a)) (.d (.int b)) m) Q ↔ Q (.d (.int (a + b))) m := Iff.rfl
theorem o1_sub : wpO (subO (.d (.int a)) (.d (.int b)) m) Q ↔ Q (.d (.int (a - b))) m := Iff.rfl
theorem o1_iadd : wpO (iaddO (.d (.int a)) (.d (.int b)) m) Q ↔ Q (.d (.int (a + b))) m := Iff.rfl
theorem o1_lt : wpO (ltO (.d (.int a)) (.d (.int b)) m) Q ↔ Q (.d (.bool (decide (a < b)))) m := Iff.rfl
theorem o1_le : wpO (leO (.d (.int a)) (.d (.int b)) m) Q ↔ Q (.d (.bool (decide (a ≤ b)))) m := Iff.rfl
theorem o1_gt : wpO (gtO (.d (.int a)) (.d (.int b)) m) Q ↔ Q (.d (.bool (decide (b < a)))) m := Iff.rfl
theorem o1_ge : wpO (geO (.d (.int a)) (.d (.int b)) m) Q ↔ Q (.d (.bool (decide (b ≤ a)))) m := Iff.rfl
theorem o1_neg : wpO (negO (.d (.int a)) m) Q ↔ Q (.d (.int (-a))) m := Iff.rfl
theorem o1_and : wpO (andO (.d (.int a)) (.d (.int b)) m) Q ↔ Q (.d (.int (Builtin.bitAnd a b))) m := Iff.rfl
theorem intO_wp {C : Int → Int → Bool} {g : Int → Int → PyData} : wpO (intO C g (.d (.int a)) (.d (.int b)) m) Q ↔ C a b = true ∧ Q (.d (g a b)) m := by
  unfold intO
  by_cases h : C a b = true
  · simp only [if_pos h]; exact ⟨fun q => ⟨h, q⟩, fun q => q.2⟩
  · simp only [if_neg h]; exact ⟨fun q => q.elim, fun q => (h q.1).elim⟩
theorem o1_mod : wpO (modO (.d (.int a)) (.d (.int b)) m) Q ↔ 0 < b ∧ Q (.d (.int (a % b))) m := by
  unfold modO; rw [intO_wp, decide_eq_true_eq]
theorem o1_fdiv : wpO (fdivO (.d (.int a)) (.d (.int b)) m) Q ↔ (0 < b ∧ b < 1073741824) ∧ Q (.d (.int (a / b))) m := by
  unfold fdivO; rw [intO_wp, decide_eq_true_eq]
theorem o1_shr : wpO (shrO (.d (.int a)) (.d (.int b)) m) Q ↔ 0 ≤ b ∧ Q (.d (.int (a / 2 ^ b.toNat))) m := by
  unfold shrO; rw [intO_wp, decide_eq_true_eq]
theorem o1_pow : wpO (powO (.d (.int a)) (.d (.int b)) m) Q ↔ (0 ≤ b ∧ b ≤ 1000000 ∧ a.natAbs < 2 ^ 64) ∧ Q (.d (.int (a ^ b.toNat))) m := by
  unfold powO; rw [intO_wp, decide_eq_true_eq]
theorem o1_mul : wpO (mulO (.d (.int a)) (.d (.int b)) m) Q ↔ (small64 a || small64 b) = true ∧ Q (.d (.int (a * b))) m := by
  unfold mulO
  by_cases h : (small64 a || small64 b) = true
  · simp only [if_pos h]; exact ⟨fun q => ⟨h, q⟩, fun q => q.2⟩
  · simp only [if_neg h]; exact ⟨fun q => q.elim, fun q => (h q.1).elim⟩
theorem o1_eqi : wpO (eqO (.d (.int a)) (.d (.int b)) m) Q ↔ Q (.d (.bool (decide (a = b)))) m := by
  show Q (.d (.bool (PyData.eqv (.int a) (.int b)))) m ↔ _
  have e : PyData.eqv (.int a) (.int b) = decide (a = b) := by unfold PyData.eqv; rfl
  rw [e]
theorem o1_int : wpO (intO1 [.d (.int a)] m) Q ↔ Q (.d (.int a)) m := Iff.rfl
theorem o1_abs : wpO (absO [.d (.int a)] m) Q ↔ Q (.d (.int (if a < 0 then -a else a))) m := Iff.rfl
theorem o1_lst : wpO (lstO xs m) Q ↔ xs.length ≤ LIM ∧ Q (.ref m.cells.length) (m.push (.lst xs)) := by
  unfold lstO
  by_cases h : xs.length ≤ LIM
  · rw [if_pos h]; exact ⟨fun q => ⟨h, q⟩, fun q => q.2⟩
  · rw [if_neg h]; exact ⟨fun q => q.elim, fun q => (h q.1).elim⟩
theorem o1_tup : wpO (tupO xs m) Q ↔ xs.length ≤ LIM ∧ Q (mkTup xs) m := by
  unfold tupO
  by_cases h : xs.length ≤ LIM
  · rw [if_pos h]; exact ⟨fun q => ⟨h, q⟩, fun q => q.2⟩
  · rw [if_neg h]; exact ⟨fun q => q.elim, fun q => (h q.1).elim⟩
theorem s_ref (h : Has m n (.lst xs)) : seqOf m (.ref n) = some xs := by
  show (match m.cells[n]? with | some (.lst xs) => some xs | _ => none) = some xs
  rw [show m.cells[n]? = some (.lst xs) from h]
theorem o1_len (h : Has m n (.lst xs)) : wpO (lenO [.ref n] m) Q ↔ Q (.d (.int xs.length)) m := by
  unfold lenO
  simp only [show m.cells[n]? = some (.lst xs) from h]
  exact Iff.rfl
theorem o1_lenT {ds : List PyData} : wpO (lenO [.d (.tuple ds)] m) Q ↔ Q (.d (.int ds.length)) m := by
  show Q (.d (.int (ds.map Wd.d).length)) m ↔ _
  rw [List.length_map]
theorem o1_lenW : wpO (lenO [.tup xs] m) Q ↔ Q (.d (.int xs.length)) m := Iff.rfl
theorem o1_lenR : wpO (lenO [.rol xs] m) Q ↔ Q (.d (.int xs.length)) m := Iff.rfl
theorem o1_lenS {x : Str} : wpO (lenO [.d (.str x)] m) Q ↔ x.length ≤ LIM ∧ Q (.d (.int x.length)) m := by
  unfold lenO
  by_cases h : x.length ≤ LIM
  · simp only [if_pos h]; exact ⟨fun q => ⟨h, q⟩, fun q => q.2⟩
  · simp only [if_neg h]; exact ⟨fun q => q.elim, fun q => (h q.1).elim⟩
theorem ix_of {x w : Wd} (hs : seqOf m x = some xs) (h : atI xs a = some w) : wpO (ixO x (.d (.int a)) m) Q ↔ Q w m := by
  unfold ixO
  split
  · rename_i z i e1 e2
    cases hs
  · rename_i x' i e1 e2
    cases e2
    simp only [hs, h]
    exact Iff.rfl
  · rename_i h1 h2
    exact (h1 a rfl).elim
theorem o1_ix {w : Wd} (hm : Has m n (.lst xs)) (h : atI xs a = some w) : wpO (ixO (.ref n) (.d (.int a)) m) Q ↔ Q w m := ix_of (s_ref hm) h
theorem at_0 {α : Type} {x : α} {r : List α} : atI (x :: r) 0 = some x := by
  unfold atI ixN; simp
theorem at_nat {α : Type} {r : List α} {k : Nat} (h : k < r.length) : atI r (k : Int) = r[k]? := by
  unfold atI ixN
  rw [if_pos (by omega), if_pos (by omega)]
  simp
theorem at_1 {α : Type} {x y : α} {r : List α} : atI (x :: y :: r) 1 = some y := at_nat (k := 1) (by simp)
theorem at_2 {α : Type} {x y z : α} {r : List α} : atI (x :: y :: z :: r) 2 = some z := at_nat (k := 2) (by simp)
theorem at_3 {α : Type} {x y z u : α} {r : List α} : atI (x :: y :: z :: u :: r) 3 = some u := at_nat (k := 3) (by simp)
theorem at_4 {α : Type} {x y z u v : α} {r : List α} : atI (x :: y :: z :: u :: v :: r) 4 = some v := at_nat (k := 4) (by simp)
theorem set_of {v : Wd} {k : Nat} (h : Has m n (.lst xs)) (hk : ixN xs.length a = some k) : setO (.ref n) (.d (.int a)) v m = some (m.put n (.lst (xs.set k v)) (v.lt 0)) := by
  show (match m.cells[n]? with | some (.lst xs) => (match ixN xs.length a with | some j => some (m.put n (.lst (xs.set j v)) (v.lt 0)) | none => none) | _ => none) = _
  rw [show m.cells[n]? = some (.lst xs) from h]
  simp only [hk]
theorem ixL_of {w : Wd} (h : Has m n (.lst xs)) (h0 : 0 ≤ a) (hw : xs[a.toNat]? = some w) : ixLO (.ref n) (.d (.int a)) m = some w := by
  show (match m.cells[n]? with | some (.lst xs) => if 0 ≤ a then xs[a.toNat]? else none | _ => none) = _
  rw [show m.cells[n]? = some (.lst xs) from h]
  simp only [if_pos h0, hw]
theorem o1_sl (h : Has m n (.lst xs)) {lo hi : Option Int} : wpO (slO (.ref n) lo hi m) Q ↔ Q (.ref m.cells.length) (m.push (.lst (cutW xs lo hi))) := by
  unfold slO
  simp only [show m.cells[n]? = some (.lst xs) from h]
  exact Iff.rfl
theorem o1_slR {lo hi : Option Int} : wpO (slO (.rol xs) lo hi m) Q ↔ Q (.ref m.cells.length) (m.push (.lst (cutW xs lo hi))) := Iff.rfl
theorem o1_cat {k : Nat} (h : Has m n (.lst xs)) (h' : Has m k (.lst ys)) (hl : xs.length + ys.length ≤ LIM) : wpO (addO (.ref n) (.ref k) m) Q ↔ Q (.ref m.cells.length) (m.push (.lst (xs ++ ys))) := by
  unfold addO
  simp only [show m.cells[n]? = some (.lst xs) from h, show m.cells[k]? = some (.lst ys) from h', if_pos hl]
  exact Iff.rfl
end
end DL
set_option Elab.async false
set_option linter.all false
set_option maxRecDepth 100000
set_option maxHeartbeats 2000000
namespace DL
open PySem PySem.Spec PyProof.Rows L2
/-! ### what a value reads -/
mutual
def okD : PyData → Bool
  | .none => true | .bool _ => true | .int _ => true | .str _ => true
  | .tuple ds => okDs ds
  | _ => false
def okDs : List PyData → Bool
  | [] => true
  | x :: r => okD x && okDs r
end
mutual
def psz : PyData → Nat
  | .tuple ds => pszs ds + 1
  | .list ds => pszs ds + 1
  | _ => 1
def pszs : List PyData → Nat
  | [] => 0
  | x :: r => psz x + pszs r
end
mutual
inductive Rd (m : Mm) : Wd → PyData → Prop
  | d {x : PyData} : okD x = true → Rd m (.d x) x
  | tup {ws : List Wd} {ds : List PyData} : Rds m ws ds → Rd m (.tup ws) (.tuple ds)
  | ref {n : Nat} {ws : List Wd} {ds : List PyData} : Has m n (.lst ws) → Rds m ws ds → Rd m (.ref n) (.list ds)
  | rol {ws : List Wd} {ds : List PyData} : Rds m ws ds → Rd m (.rol ws) (.list ds)
inductive Rds (m : Mm) : List Wd → List PyData → Prop
  | nil : Rds m [] []
  | cons {w : Wd} {ws : List Wd} {x : PyData} {xs : List PyData} : Rd m w x → Rds m ws xs → Rds m (w :: ws) (x :: xs)
end
section
variable {m m' : Mm}
mutual
theorem Rd.fr (f : Fr [] m m') : ∀ {w : Wd} {x : PyData}, Rd m w x → Rd m' w x
  | _, _, .d h => .d h
  | _, _, .tup h => .tup (Rds.fr f h)
  | _, _, .ref h hs => .ref (f.has h) (Rds.fr f hs)
  | _, _, .rol h => .rol (Rds.fr f h)
theorem Rds.fr (f : Fr [] m m') : ∀ {w : List Wd} {x : List PyData}, Rds m w x → Rds m' w x
  | _, _, .nil => .nil
  | _, _, .cons h hs => .cons (Rd.fr f h) (Rds.fr f hs)
end
theorem Rds.length : ∀ {ws : List Wd} {ds : List PyData}, Rds m ws ds → ws.length = ds.length
  | _, _, .nil => rfl
  | _, _, .cons _ h => congrArg (· + 1) (Rds.length h)
theorem rds_d : ∀ {ds : List PyData}, okDs ds = true → Rds m (ds.map .d) ds
  | [], _ => .nil
  | x :: r, h => by
    have h' : (okD x && okDs r) = true := h
    rw [Bool.and_eq_true] at h'
    exact .cons (.d h'.1) (rds_d h'.2)
theorem rds_of_d : ∀ (ds : List PyData) {es : List PyData}, Rds m (ds.map .d) es → es = ds ∧ okDs ds = true := by
  intro ds
  induction ds with
  | nil => intro es h; cases h; exact ⟨rfl, rfl⟩
  | cons x r ih =>
    intro es h
    cases h with
    | cons h hs =>
      obtain ⟨e, h2⟩ := ih hs
      cases h with
      | d h => exact ⟨by rw [e], by show (okD x && okDs r) = true; rw [h, h2]; rfl⟩
theorem rd_tup {ws : List Wd} {ds : List PyData} (h : Rds m ws ds) : Rd m (mkTup ws) (.tuple ds) := by
  unfold mkTup
  cases q : allD ws with
  | none => exact .tup h
  | some es =>
    rw [allD_eq q] at h
    obtain ⟨e, h2⟩ := rds_of_d _ h
    subst e
    exact .d h2
theorem tupOf_mk (ws : List Wd) : tupOf (mkTup ws) = some ws := by
  unfold mkTup
  cases q : allD ws with
  | none => rfl
  | some es => rw [allD_eq q]; rfl
theorem psz_pos (x : PyData) : 1 ≤ psz x := by cases x <;> simp [psz]
theorem pszs_append : ∀ xs ys : List PyData, pszs (xs ++ ys) = pszs xs + pszs ys
  | [], ys => by simp [pszs]
  | x :: xs, ys => by simp [pszs, pszs_append xs ys]; omega
theorem pszs_len : ∀ xs : List PyData, xs.length ≤ pszs xs
  | [] => Nat.le_refl _
  | x :: xs => by have := pszs_len xs; have := psz_pos x; simp [pszs]; omega
def tyD : PyData → String
  | .none => "NoneType" | .bool _ => "bool" | .int _ => "int" | .str _ => "str" | .tuple _ => "tuple" | .list _ => "list" | .dict _ => "dict"
theorem rd_ty {w : Wd} {x : PyData} (h : Rd m w x) : tyName m w = some (tyD x) := by
  cases h with
  | d h =>
    cases x with
    | list _ => cases h
    | dict _ => cases h
    | _ => rfl
  | tup _ => rfl
  | @ref n ws ds h hs =>
    show (match m.cells[n]? with | some (.lst _) => some "list" | some (.dct _) => some "dict" | _ => none) = _
    rw [show m.cells[n]? = some (.lst ws) from h]; rfl
  | rol _ => rfl
/-- a sequence's items -/
theorem rd_seq {w : Wd} {ds : List PyData} (h : Rd m w (.tuple ds) ∨ Rd m w (.list ds)) : ∃ ws, seqOf m w = some ws ∧ Rds m ws ds := by
  rcases h with h | h
  · cases h with
    | d h => exact ⟨_, rfl, rds_d h⟩
    | tup h => exact ⟨_, rfl, h⟩
  · cases h with
    | d h => cases h
    | ref h hs => exact ⟨_, s_ref h, hs⟩
    | rol h => exact ⟨_, rfl, h⟩
theorem rd_lw {w : Wd} {x : PyData} (h : Rd m w x) (hs : tyD x = "tuple" ∨ tyD x = "list") : isLW w = decide (tyD x = "list") := by
  cases h with
  | d h =>
    cases x with
    | tuple _ => rfl
    | list _ => cases h
    | dict _ => cases h
    | none => simp [tyD] at hs
    | bool _ => simp [tyD] at hs
    | int _ => simp [tyD] at hs
    | str _ => simp [tyD] at hs
  | tup _ => rfl
  | ref _ _ => rfl
  | rol _ => rfl
end
section
variable {m : Mm} {Q : Wd → Mm → Prop}
theorem o1_lens {w : Wd} {xs : List Wd} (h : seqOf m w = some xs) : wpO (lenO [w] m) Q ↔ Q (.d (.int xs.length)) m := by
  cases w with
  | d x =>
    cases x with
    | tuple ds => cases h; exact Iff.rfl
    | _ => cases h
  | ref n =>
    have e : (match m.cells[n]? with | some (.lst xs) => some xs | _ => none) = some xs := h
    cases q : m.cells[n]? with
    | none => rw [q] at e; cases e
    | some c =>
      rw [q] at e
      cases c with
      | lst ys => cases e; exact o1_len q
      | dct _ => cases e
      | ins _ _ => cases e
  | tup xs => cases h; exact Iff.rfl
  | rol xs => cases h; exact Iff.rfl
  | v x => cases h
theorem o1_neb {a b : Bool} : wpO (neO (.d (.bool a)) (.d (.bool b)) m) Q ↔ Q (.d (.bool (!(a == b)))) m := Iff.rfl
theorem o1_nei {a b : Int} : wpO (neO (.d (.int a)) (.d (.int b)) m) Q ↔ Q (.d (.bool (!(decide (a = b))))) m := by
  show Q (.d (.bool (!PyData.eqv (.int a) (.int b)))) m ↔ _
  have e : PyData.eqv (.int a) (.int b) = decide (a = b) := by unfold PyData.eqv; rfl
  rw [e]
theorem o1_nes {x : PyData} (h : x = .none ∨ (∃ b, x = .bool b) ∨ (∃ i, x = .int i) ∨ ∃ s, x = .str s) : wpO (neO (.d x) (.d x) m) Q ↔ Q (.d (.bool false)) m := by
  rcases h with rfl | ⟨b, rfl⟩ | ⟨i, rfl⟩ | ⟨s, rfl⟩
  · exact Iff.rfl
  · rw [o1_neb]; simp
  · rw [o1_nei]; simp
  · show Q (.d (.bool (!PyData.eqv (.str s) (.str s)))) m ↔ _
    have e : PyData.eqv (.str s) (.str s) = true := by unfold PyData.eqv; simp
    rw [e]; rfl
theorem seqOf_fr {m' : Mm} {S : List Nat} {w : Wd} {xs : List Wd} (f : Fr S m m') (h : seqOf m w = some xs) (hn : ∀ n, w = .ref n → n ∉ S) : seqOf m' w = some xs := by
  cases w with
  | ref n =>
    have e : (match m.cells[n]? with | some (.lst xs) => some xs | _ => none) = some xs := h
    cases q : m.cells[n]? with
    | none => rw [q] at e; cases e
    | some c =>
      rw [q] at e
      cases c with
      | lst ys => cases e; exact s_ref (f.has q (hn n rfl))
      | dct _ => cases e
      | ins _ _ => cases e
  | d x => cases x <;> exact h
  | _ => exact h
theorem o1_lz {a b : Wd} {xs ys : List Wd} (hk : isLW a = isLW b) (ha : seqOf m a = some xs) (hb : seqOf m b = some ys) : wpO (lzO [a, b] m) Q ↔ Q (.ref m.cells.length) (m.push (.lst ((xs.zip ys).map fun p => mkTup [p.1, p.2]))) := by
  unfold lzO
  simp only [hk, ha, hb, beq_self_eq_true, if_true]
  exact Iff.rfl
theorem o1_ext {n k : Nat} {xs ys : List Wd} (h : Has m n (.lst xs)) (h' : Has m k (.lst ys)) (hl : xs.length + ys.length ≤ LIM) : wpO (extO (.ref n) [.ref k] m) Q ↔ Q (.d .none) (m.put n (.lst (xs ++ ys)) (Wd.ltAll 0 ys)) := by
  unfold extO
  simp only [show m.cells[n]? = some (.lst xs) from h, show m.cells[k]? = some (.lst ys) from h', if_pos hl]
  exact Iff.rfl
theorem o1_app {n : Nat} {xs : List Wd} {w : Wd} (h : Has m n (.lst xs)) (hl : xs.length < LIM) : wpO (appO (.ref n) [w] m) Q ↔ Q (.d .none) (m.put n (.lst (xs ++ [w])) (w.lt 0)) := by
  unfold appO
  simp only [show m.cells[n]? = some (.lst xs) from h, if_pos hl]
  exact Iff.rfl
end
end DL
set_option Elab.async false
set_option linter.all false
set_option maxRecDepth 100000
set_option maxHeartbeats 2000000
namespace DL
open PySem PySem.Spec PyProof.Rows L2
section
variable {env : DL.Env} {m : Mm} {Q : Wd → Mm → Prop}
theorem w_iter {f : Em Wd} {Q : List Wd × Gd → Mm → Prop} (h : wpR (f env m) fun w m1 => (∃ xs, seqOf m1 w = some xs ∧ ∀ gd, (∀ m', Fr [] m1 m' → gdOk gd m' = true) → Q (xs, gd) m1) ∨ ∃ x, w = .d (.str x) ∧ Q (x.cps.toList.map (fun c => .d (.str ⟨#[c]⟩)), []) m1) : wpR (iVal f env m) Q := by
  rw [w_val]
  refine wpR_mono h fun w m1 h => ?_
  rcases h with ⟨xs, hs, hq⟩ | ⟨x, rfl, hq⟩
  · cases w with
    | d x =>
      cases x with
      | tuple ds => cases hs; exact hq [] fun m' _ => gdOk_nil
      | _ => cases hs
    | ref n =>
      have e : (match m1.cells[n]? with | some (.lst xs) => some xs | _ => none) = some xs := hs
      have key : Has m1 n (.lst xs) := by
        unfold Has
        cases q : m1.cells[n]? with
        | none => rw [q] at e; cases e
        | some c =>
          rw [q] at e
          cases c with
          | lst ys => cases e; rfl
          | dct _ => cases e
          | ins _ _ => cases e
      show wpR (match m1.cells[n]? with | some (.lst xs) => Rs.ok (xs, [(n, Cell.lst xs)]) m1 | _ => .stuck) Q
      rw [show m1.cells[n]? = some (.lst xs) from key]
      exact hq [(n, .lst xs)] fun m' f => gdOk_one (f.has key)
    | tup ys => cases hs; exact hq [] fun m' _ => gdOk_nil
    | rol ys => cases hs; exact hq [] fun m' _ => gdOk_nil
    | v _ => cases hs
  · exact hq
/-- a comprehension that only looks -/
theorem w_lcm {t : Tg} {c : Em Bool} {f : Em Wd} {gd : Gd} {e0 : DL.Env} {xs : List Wd} {R : List Wd → Mm → Prop} (p : Wd → Bool) (g : Wd → Wd) (hlen : xs.length ≤ LIM) (hgd : ∀ m', Fr [] m m' → gdOk gd m' = true)
    (hs : ∀ w ∈ xs, ∀ m', Fr [] m m' → ∃ e, t.put w e0 = some e ∧ wpR (c e m') fun b m2 => Fr [] m m2 ∧ b = p w ∧ (p w = true → wpR (f e m2) fun x m3 => Fr [] m m3 ∧ x = g w)) (hd : ∀ m', Fr [] m m' → R ((xs.filter p).map g) m') : wpR (lcL t c f gd e0 xs [] m) R := by
  refine w_lc0 (fun k acc mm => Fr [] m mm ∧ acc = ((xs.take k).filter p).map g) ⟨.refl, rfl⟩ (fun k acc mm hI => hgd mm hI.1) (fun k acc mm w hw hI => ?_) fun acc mm hI => ?_
  · obtain ⟨fI, rfl⟩ := hI
    obtain ⟨e, he, hb⟩ := hs w (List.mem_of_getElem? hw) mm fI
    refine ⟨e, he, wpR_mono hb fun b m2 h => ?_⟩
    obtain ⟨f2, rfl, hf⟩ := h
    have htk : xs.take (k + 1) = xs.take k ++ [w] := by rw [List.take_succ, hw]; rfl
    have hlt : k < xs.length := (List.getElem?_eq_some_iff.mp hw).1
    cases q : p w with
    | false =>
      rw [if_neg (by simp)]
      exact ⟨f2, by rw [htk, List.filter_append]; simp [q]⟩
    | true =>
      rw [if_pos rfl]
      refine wpR_mono (hf q) fun x m3 h3 => ?_
      obtain ⟨f3, rfl⟩ := h3
      refine ⟨?_, f3, by rw [htk, List.filter_append]; simp [q]⟩
      rw [List.length_map]
      have h1 := List.length_filter_le p (xs.take k)
      rw [List.length_take] at h1
      omega
  · obtain ⟨fI, rfl⟩ := hI
    rw [List.take_length]
    exact hd mm fI
theorem o1_all {n : Nat} {bs : List Bool} (h : Has m n (.lst (bs.map fun b => .d (.bool b)))) : wpO (allO [.ref n] m) Q ↔ Q (.d (.bool (bs.all id))) m := by
  have hb : ∀ bs : List Bool, boolsW (bs.map fun b => Wd.d (.bool b)) = some bs := by
    intro bs
    induction bs with
    | nil => rfl
    | cons b r ih => show (boolsW (r.map fun b => Wd.d (.bool b))).map (b :: ·) = _; rw [ih]; rfl
  unfold allO
  simp only [show m.cells[n]? = some (.lst (bs.map fun b => .d (.bool b))) from h, hb]
  exact Iff.rfl
theorem o1_list {w : Wd} {xs : List Wd} (h : seqOf m w = some xs) : wpO (listO [w] m) Q ↔ Q (.ref m.cells.length) (m.push (.lst xs)) := by
  unfold listO; simp only [h]; exact Iff.rfl
theorem o1_tuple {w : Wd} {xs : List Wd} (h : seqOf m w = some xs) : wpO (tupleO [w] m) Q ↔ Q (mkTup xs) m := by
  unfold tupleO; simp only [h]; exact Iff.rfl
theorem strsW_map : ∀ ss : List Str, strsW (ss.map fun x => Wd.d (.str x)) = some ss
  | [] => rfl
  | s :: r => by show (strsW (r.map fun x => Wd.d (.str x))).map (s :: ·) = _; rw [strsW_map r]; rfl
theorem o1_sortS {w : Wd} {ss : List Str} (h : seqOf m w = some (ss.map fun x => .d (.str x))) : wpO (sortO [w] m) Q ↔ Q (.ref m.cells.length) (m.push (.lst ((ss.mergeSort leS).map fun x => .d (.str x)))) := by
  unfold sortO; simp only [h, strsW_map]; exact Iff.rfl
/-- in: a flat value in a sequence of flat ones -/
theorem o1_in {a : PyData} {w : Wd} {ds : List PyData} (ha : flatD a = true) (h : seqOf m w = some (ds.map .d)) (hf : ds.all flatD = true) : wpO (inO (.d a) w m) Q ↔ Q (.d (.bool (ds.any fun z => PyData.eqv z a))) m := by
  have hx : inB (.d a) w m = some (ds.any fun z => PyData.eqv z a) := by
    have key : (match seqOf m w with
      | some ys => if (flatW (.d a) && ys.all flatW) = true then some (ys.any fun z => eqvW z (.d a)) else none
      | none => none) = some (ds.any fun z => PyData.eqv z a) := by
      rw [h]
      have e : (flatW (.d a) && (ds.map Wd.d).all flatW) = true := by
        rw [Bool.and_eq_true]
        refine ⟨ha, ?_⟩
        rw [List.all_map]; exact hf
      simp only [if_pos e, List.any_map]
      rfl
    unfold inB
    split
    · rename_i z y e1 e2
      cases h
    · exact key
  unfold inO
  rw [hx]
  exact Iff.rfl
theorem o1_ni {a : PyData} {w : Wd} {ds : List PyData} (ha : flatD a = true) (h : seqOf m w = some (ds.map .d)) (hf : ds.all flatD = true) : wpO (niO (.d a) w m) Q ↔ Q (.d (.bool (!(ds.any fun z => PyData.eqv z a)))) m := by
  have h2 := (o1_in (m := m) (Q := fun w m' => w = .d (.bool (ds.any fun z => PyData.eqv z a))) ha h hf).mpr rfl
  unfold inO at h2
  unfold niO
  cases q : inB (.d a) w m with
  | none => rw [q] at h2; exact h2.elim
  | some b =>
    rw [q] at h2
    have h3 : Wd.d (.bool b) = .d (.bool (ds.any fun z => PyData.eqv z a)) := h2
    cases h3
    exact Iff.rfl
theorem o1_inS {c : Nat} {z : Str} : wpO (inO (.d (.str ⟨#[c]⟩)) (.d (.str z)) m) Q ↔ Q (.d (.bool (decide (c ∈ z.cps.toList)))) m := Iff.rfl
theorem o1_niS {c : Nat} {z : Str} : wpO (niO (.d (.str ⟨#[c]⟩)) (.d (.str z)) m) Q ↔ Q (.d (.bool (!decide (c ∈ z.cps.toList)))) m := Iff.rfl
theorem toP_mono {m : Mm} : ∀ (k : Nat) {w : Wd} {x : PyData}, toP m k w = some x → toP m (k + 1) w = some x := by
  intro k
  induction k with
  | zero =>
    intro w x h
    cases w with
    | d y => exact h
    | _ => cases h
  | succ k ih =>
    have all : ∀ (ws : List Wd) (ds : List PyData), seqO (ws.map (toP m k)) = some ds → seqO (ws.map (toP m (k + 1))) = some ds := by
      intro ws
      induction ws with
      | nil => intro ds h; exact h
      | cons w r ihr =>
        intro ds h
        rw [List.map_cons] at h ⊢
        cases q : toP m k w with
        | none => rw [q] at h; cases h
        | some y =>
          rw [q] at h
          rw [ih q]
          cases q2 : seqO (r.map (toP m k)) with
          | none => simp [seqO, q2] at h
          | some es =>
            simp only [seqO, q2] at h
            simp only [seqO, ihr es q2]
            exact h
    intro w x h
    cases w with
    | d y => exact h
    | ref n =>
      simp only [toP] at h ⊢
      cases q : m.cells[n]? with
      | none => rw [q] at h; cases h
      | some c =>
        rw [q] at h
        cases c with
        | lst xs =>
          simp only at h ⊢
          obtain ⟨ds, h1, h2⟩ := Option.map_eq_some_iff.mp h
          rw [all xs ds h1, ← h2]; rfl
        | dct _ => cases h
        | ins _ _ => cases h
    | tup xs =>
      simp only [toP] at h ⊢
      obtain ⟨ds, h1, h2⟩ := Option.map_eq_some_iff.mp h
      rw [all xs ds h1, ← h2]; rfl
    | rol xs =>
      simp only [toP] at h ⊢
      obtain ⟨ds, h1, h2⟩ := Option.map_eq_some_iff.mp h
      rw [all xs ds h1, ← h2]; rfl
    | v _ => cases h
theorem seqO_d (k : Nat) : ∀ ds : List PyData, seqO ((ds.map Wd.d).map (toP m k)) = some ds
  | [] => rfl
  | x :: r => by
    have e : toP m k (.d x) = some x := by cases k <;> rfl
    rw [List.map_cons, List.map_cons, e]
    simp only [seqO, seqO_d k r]
    rfl
/-- what flat sequences read at 64 -/
theorem toP_d {k : Nat} {x : PyData} : toP m k (.d x) = some x := by cases k <;> rfl
theorem toP_lst {k n : Nat} {ds : List PyData} (h : Has m n (.lst (ds.map .d))) : toP m (k + 1) (.ref n) = some (.list ds) := by
  simp only [toP, show m.cells[n]? = some (.lst (ds.map .d)) from h, seqO_d]; rfl
theorem o1_eqW {a b : Wd} {x y : PyData} (ha : toP m 64 a = some x) (hb : toP m 64 b = some y) (hs : (scalD x y || (SeqAt.shaped x && SeqAt.shaped y)) = true) : wpO (eqO a b m) Q ↔ Q (.d (.bool (PyData.eqv x y))) m := by
  have e : eqB a b m = some (PyData.eqv x y) := by unfold eqB; simp only [ha, hb, if_pos hs]
  unfold eqO; rw [e]; exact Iff.rfl
theorem o1_neW {a b : Wd} {x y : PyData} (ha : toP m 64 a = some x) (hb : toP m 64 b = some y) (hs : (scalD x y || (SeqAt.shaped x && SeqAt.shaped y)) = true) : wpO (neO a b m) Q ↔ Q (.d (.bool (!PyData.eqv x y))) m := by
  have e : eqB a b m = some (PyData.eqv x y) := by unfold eqB; simp only [ha, hb, if_pos hs]
  unfold neO; rw [e]; exact Iff.rfl
end
theorem depthAll_ones : ∀ n : Nat, PyData.depthAll (List.replicate n (.int 1)) = 0
  | 0 => rfl
  | n + 1 => by show max (PyData.depth (.int 1)) (PyData.depthAll (List.replicate n (.int 1))) = 0; rw [depthAll_ones n]; rfl
theorem canLay_ones : ∀ n : Nat, PyData.canLayAll0 (List.replicate n (.int 1)) = true
  | 0 => rfl
  | n + 1 => by show (PyData.canLay0 (.int 1) && PyData.canLayAll0 (List.replicate n (.int 1))) = true; rw [canLay_ones n]; rfl
theorem shaped_ones {α : Type} (l : List α) (y : List PyData := []) (hy : y = [] := by rfl) : (scalD (.list (l.map fun _ => PyData.int 1)) (.list y) || (SeqAt.shaped (.list (l.map fun _ => PyData.int 1)) && SeqAt.shaped (.list y))) = true := by
  subst hy
  have e : (l.map fun _ => PyData.int 1) = List.replicate l.length (.int 1) := by rw [List.map_const']
  have h1 : SeqAt.shaped (.list (l.map fun _ => PyData.int 1)) = true := by
    unfold SeqAt.shaped
    rw [e, Bool.and_eq_true]
    exact ⟨canLay_ones _, by rw [decide_eq_true_eq]; show PyData.depthAll (List.replicate l.length (.int 1)) + 1 ≤ 64; rw [depthAll_ones]; omega⟩
  rw [Bool.or_eq_true, Bool.and_eq_true]
  exact .inr ⟨h1, by decide +kernel⟩
theorem eqv_nil (l : List PyData) : PyData.eqv (.list l) (.list []) = l.isEmpty := by
  cases l <;> rfl
theorem o1_eqOnes {α : Type} {m : Mm} {Q : Wd → Mm → Prop} {n k : Nat} {l : List α} (h : Has m n (.lst (l.map fun _ => .d (.int 1)))) (h' : Has m k (.lst [])) : wpO (eqO (.ref n) (.ref k) m) Q ↔ Q (.d (.bool l.isEmpty)) m := by
  have h1 : toP m 64 (.ref n) = some (.list (l.map fun _ => PyData.int 1)) := toP_lst (by rw [List.map_map]; exact h)
  have h2 : toP m 64 (.ref k) = some (.list []) := toP_lst (ds := []) h'
  rw [o1_eqW h1 h2 (shaped_ones l _), eqv_nil]
  simp
theorem filt_not {α : Type} (p : α → Bool) : ∀ l : List α, (l.filter fun x => !p x).isEmpty = l.all p
  | [] => rfl
  | x :: r => by
    cases q : p x with
    | true => simp [q, List.filter_cons]; exact (filt_not p r).symm ▸ (by simp)
    | false => simp [q, List.filter_cons]
section
variable {m : Mm} {Q : Wd → Mm → Prop}
theorem o1_slT {w : Wd} {xs : List Wd} {lo hi : Option Int} (h : tupOf w = some xs) : wpO (slO w lo hi m) Q ↔ Q (mkTup (cutW xs lo hi)) m := by
  cases w with
  | d x =>
    cases x with
    | tuple ds => unfold slO; simp only [h]; exact Iff.rfl
    | _ => cases h
  | tup ys => unfold slO; simp only [h]; exact Iff.rfl
  | _ => cases h
theorem cut_to (xs : List Wd) (k : Nat) : cutW xs none (some (k : Int)) = xs.take k := by
  unfold cutW
  rw [show HT.sIx xs.length 0 none = 0 from rfl, HT.sIx_nat, List.drop_zero, Nat.sub_zero]
  by_cases h : k ≤ xs.length
  · rw [Nat.min_eq_left h]
  · rw [Nat.min_eq_right (by omega), List.take_length, List.take_of_length_le (by omega)]
theorem tupOf_seq {w : Wd} {xs : List Wd} (h : tupOf w = some xs) : seqOf m w = some xs := by
  cases w with
  | d x =>
    cases x with
    | tuple ds => exact h
    | _ => cases h
  | tup ys => exact h
  | _ => cases h
theorem rd_tupOf {w : Wd} {ds : List PyData} (h : Rd m w (.tuple ds)) : ∃ ws, tupOf w = some ws ∧ Rds m ws ds := by
  cases h with
  | d h => exact ⟨_, rfl, rds_d h⟩
  | tup h => exact ⟨_, rfl, h⟩
theorem rds_flat : ∀ {ws : List Wd} {ds : List PyData}, Rds m ws ds → ds.all flatD = true → ws = ds.map .d
  | _, _, .nil, _ => rfl
  | _, _, .cons h hs, hf => by
    rw [List.all_cons, Bool.and_eq_true] at hf
    rw [rds_flat hs hf.2]
    cases h with
    | d _ => rfl
    | tup _ => cases hf.1
    | ref _ _ => cases hf.1
    | rol _ => cases hf.1
theorem rds_get {ws : List Wd} {ds : List PyData} {k : Nat} {w : Wd} (h : Rds m ws ds) (e : ws[k]? = some w) : ∃ x, ds[k]? = some x ∧ Rd m w x := by
  induction k generalizing ws ds with
  | zero =>
    cases h with
    | nil => simp at e
    | cons h hs => simp at e; subst e; exact ⟨_, rfl, h⟩
  | succ k ih =>
    cases h with
    | nil => simp at e
    | cons h hs =>
      obtain ⟨x, e1, r⟩ := ih hs (by simpa using e)
      exact ⟨x, by simpa using e1, r⟩
end
/-! no two alike -/
theorem nodup_snoc {α : Type} {l : List α} {x : α} : (l ++ [x]).Nodup ↔ l.Nodup ∧ x ∉ l := by
  rw [List.nodup_append]
  constructor
  · exact fun ⟨h1, _, h3⟩ => ⟨h1, fun h => h3 x h x (by simp) rfl⟩
  · exact fun ⟨h1, h2⟩ => ⟨h1, by simp, fun a ha b hb e => h2 (by rw [List.mem_singleton.mp hb] at e; rw [← e]; exact ha)⟩
theorem unlike_nodup {α : Type} [DecidableEq α] : ∀ (l : List α), ((List.range l.length).all fun k => !((l.take k).any fun z => decide (some z = l[k]?))) = decide l.Nodup := by
  intro l
  rw [Bool.eq_iff_iff, List.all_eq_true, decide_eq_true_eq]
  constructor
  · intro h
    refine List.pairwise_iff_getElem.mpr fun i j hi hj hij e => ?_
    have h2 := h j (List.mem_range.mpr hj)
    rw [Bool.not_eq_true', List.any_eq_false] at h2
    refine h2 l[i] ?_ ?_
    · rw [List.mem_take_iff_getElem]
      exact ⟨i, by omega, rfl⟩
    · rw [decide_eq_true_eq, e, List.getElem?_eq_getElem hj]
  · intro h k hk
    have hk' := List.mem_range.mp hk
    rw [Bool.not_eq_true', List.any_eq_false]
    intro z hz e
    rw [decide_eq_true_eq] at e
    rw [List.mem_take_iff_getElem] at hz
    obtain ⟨i, hi, rfl⟩ := hz
    rw [List.getElem?_eq_getElem hk'] at e
    exact List.pairwise_iff_getElem.mp h i k (by omega) hk' (by omega) (Option.some.inj e)
def dd {α : Type} [DecidableEq α] (l : List α) : List α := l.foldl (fun acc s => if s ∈ acc then acc else acc ++ [s]) []
theorem dd_snoc {α : Type} [DecidableEq α] (l : List α) (x : α) : dd (l ++ [x]) = if x ∈ dd l then dd l else dd l ++ [x] := by
  unfold dd; rw [List.foldl_append]; rfl
theorem snoc_ind {α : Type} {P : List α → Prop} (h0 : P []) (h1 : ∀ l x, P l → P (l ++ [x])) (l : List α) : P l := by
  have : ∀ l : List α, P l.reverse := by
    intro l
    induction l with
    | nil => exact h0
    | cons x r ih => rw [List.reverse_cons]; exact h1 _ x ih
  simpa using this l.reverse
theorem mem_dd {α : Type} [DecidableEq α] {y : α} (l : List α) : y ∈ dd l ↔ y ∈ l := by
  refine snoc_ind (P := fun l => y ∈ dd l ↔ y ∈ l) (by simp [dd]) (fun l x ih => ?_) l
  rw [dd_snoc]
  by_cases h : x ∈ dd l
  · rw [if_pos h, ih, List.mem_append, List.mem_singleton]
    constructor
    · exact .inl
    · rintro (q | q)
      · exact q
      · subst q; exact ih.mp h
  · rw [if_neg h, List.mem_append, List.mem_append, ih]
theorem dd_le {α : Type} [DecidableEq α] (l : List α) : (dd l).length ≤ l.length := by
  refine snoc_ind (P := fun l => (dd l).length ≤ l.length) (by simp [dd]) (fun l x ih => ?_) l
  rw [dd_snoc]
  split
  · simp; omega
  · simp; omega
theorem dd_len {α : Type} [DecidableEq α] (l : List α) : (dd l).length = l.length ↔ l.Nodup := by
  refine snoc_ind (P := fun l => (dd l).length = l.length ↔ l.Nodup) (by simp [dd]) (fun l x ih => ?_) l
  rw [dd_snoc, nodup_snoc]
  by_cases h : x ∈ dd l
  · rw [if_pos h]
    have := dd_le l
    constructor
    · intro e; simp at e; omega
    · exact fun q => (q.2 ((mem_dd l).mp h)).elim
  · rw [if_neg h]
    have h' : x ∉ l := fun q => h ((mem_dd l).mpr q)
    simp only [List.length_append, List.length_singleton, Nat.add_right_cancel_iff, ih, h', not_false_eq_true, and_true]
theorem putW_str {v : Wd} (ks : List Str) (s : Str) : putW (ks.map fun s => (PyData.str s, v)) (.inr s) v = (if s ∈ ks then ks else ks ++ [s]).map fun s => (PyData.str s, v) := by
  unfold putW
  have ha : ((ks.map fun s => (PyData.str s, v)).any fun p => decide (keyOf p.1 = some (.inr s))) = decide (s ∈ ks) := by
    rw [List.any_map, Bool.eq_iff_iff, List.any_eq_true, decide_eq_true_eq]
    constructor
    · rintro ⟨y, hy, e⟩
      have e' : keyOf (.str y) = some (.inr s) := of_decide_eq_true e
      cases e'; exact hy
    · exact fun h => ⟨s, h, decide_eq_true rfl⟩
  by_cases h : s ∈ ks
  · rw [if_pos (by rw [ha]; exact decide_eq_true h), if_pos h, List.map_map]
    refine List.map_congr_left fun y _ => ?_
    show (if keyOf (PyData.str y) = some (.inr s) then (PyData.str y, v) else (PyData.str y, v)) = _
    split <;> rfl
  · rw [if_neg (by rw [ha]; simpa using h), if_neg h, List.map_append]
    rfl
theorem dd_take {α : Type} [DecidableEq α] {l : List α} {k : Nat} {x : α} (h : l[k]? = some x) : dd (l.take (k + 1)) = if x ∈ dd (l.take k) then dd (l.take k) else dd (l.take k) ++ [x] := by
  rw [List.take_succ, h]
  exact dd_snoc _ _
/-- a dict of texts, all with one value -/
theorem w_dcS {m : Mm} {t : Tg} {fk fv : Em Wd} {gd : Gd} {e0 : DL.Env} {ss : List Str} {v : Wd} {R : List (PyData × Wd) → Mm → Prop} (hlen : ss.length < LIM) (hgd : ∀ m', Fr [] m m' → gdOk gd m' = true)
    (hs : ∀ s ∈ ss, ∀ m', Fr [] m m' → ∃ e, t.put (.d (.str s)) e0 = some e ∧ wpR (fk e m') fun y m3 => Fr [] m m3 ∧ y = .d (.str s) ∧ wpR (fv e m3) fun u m4 => Fr [] m m4 ∧ u = v) (hd : ∀ m', Fr [] m m' → R ((dd ss).map fun s => (.str s, v)) m') :
    wpR (dcL t (fun _ m => .ok true m) fk fv gd e0 (ss.map fun s => .d (.str s)) [] m) R := by
  refine wpR_mono (w_dcL (fun k acc mm => Fr [] m mm ∧ acc = (dd (ss.take k)).map fun s => (PyData.str s, v)) (ss.map fun s => .d (.str s)) (fun k acc mm hI => hgd mm hI.1) (fun k acc mm w hw hI => ?_) _ 0 [] m (by simp) (by simp) ⟨.refl, rfl⟩) fun acc mm hI => ?_
  · obtain ⟨fI, rfl⟩ := hI
    rw [List.getElem?_map] at hw
    obtain ⟨s, hx, rfl⟩ := Option.map_eq_some_iff.mp hw
    obtain ⟨e, he, hb⟩ := hs s (List.mem_of_getElem? hx) mm fI
    refine ⟨e, he, ?_⟩
    rw [wpR_ok, if_pos rfl]
    refine wpR_mono hb fun y m3 h => ?_
    obtain ⟨f3, rfl, h⟩ := h
    refine wpR_mono h fun u m4 h => ?_
    obtain ⟨f4, rfl⟩ := h
    refine ⟨.inr s, rfl, ?_, f4, ?_⟩
    · rw [List.length_map]
      have h1 := dd_le (ss.take k)
      rw [List.length_take] at h1
      omega
    · rw [putW_str, dd_take hx]
  · obtain ⟨fI, rfl⟩ := hI
    rw [List.length_map, List.take_length]
    exact hd mm fI
theorem o1_lenD {m : Mm} {Q : Wd → Mm → Prop} {n : Nat} {kvs : List (PyData × Wd)} (h : Has m n (.dct kvs)) : wpO (lenO [.ref n] m) Q ↔ Q (.d (.int kvs.length)) m := by
  unfold lenO
  simp only [show m.cells[n]? = some (.dct kvs) from h]
  exact Iff.rfl
/-- a comprehension that only looks, over what is read -/
theorem w_lcd {m : Mm} {t : Tg} {c : Em Bool} {f : Em Wd} {gd : Gd} {e0 : DL.Env} {xs : List Wd} {ds : List PyData} {R : List Wd → Mm → Prop} (hr : Rds m xs ds) (p : PyData → Bool) (g : PyData → PyData) (hlen : ds.length ≤ LIM) (hgd : ∀ m', Fr [] m m' → gdOk gd m' = true)
    (hs : ∀ w x, Rd m w x → x ∈ ds → ∀ m', Fr [] m m' → ∃ e, t.put w e0 = some e ∧ wpR (c e m') fun b m2 => Fr [] m m2 ∧ b = p x ∧ (p x = true → wpR (f e m2) fun y m3 => Fr [] m m3 ∧ y = .d (g x)))
    (hd : ∀ m', Fr [] m m' → R (((ds.filter p).map g).map .d) m') : wpR (lcL t c f gd e0 xs [] m) R := by
  have hxl := hr.length
  refine w_lc0 (fun k acc mm => Fr [] m mm ∧ acc = (((ds.take k).filter p).map g).map .d) ⟨.refl, rfl⟩ (fun k acc mm hI => hgd mm hI.1) (fun k acc mm w hw hI => ?_) fun acc mm hI => ?_
  · obtain ⟨fI, rfl⟩ := hI
    obtain ⟨x, hx, rx⟩ := rds_get hr hw
    obtain ⟨e, he, hb⟩ := hs w x rx (List.mem_of_getElem? hx) mm fI
    refine ⟨e, he, wpR_mono hb fun b m2 h => ?_⟩
    obtain ⟨f2, rfl, hf⟩ := h
    have htk : ds.take (k + 1) = ds.take k ++ [x] := by rw [List.take_succ, hx]; rfl
    have hlt : k < ds.length := (List.getElem?_eq_some_iff.mp hx).1
    cases q : p x with
    | false =>
      rw [if_neg (by simp)]
      exact ⟨f2, by rw [htk, List.filter_append]; simp [q]⟩
    | true =>
      rw [if_pos rfl]
      refine wpR_mono (hf q) fun y m3 h3 => ?_
      obtain ⟨f3, rfl⟩ := h3
      refine ⟨?_, f3, by rw [htk, List.filter_append]; simp [q]⟩
      rw [List.length_map, List.length_map]
      have h1 := List.length_filter_le p (ds.take k)
      rw [List.length_take] at h1
      omega
  · obtain ⟨fI, rfl⟩ := hI
    rw [hxl, List.take_length]
    exact hd mm fI
theorem mem_all {α : Type} {p : α → Bool} {l : List α} {x : α} (h : l.all p = true) (hx : x ∈ l) : p x = true := List.all_eq_true.mp h x hx
theorem o1_catT {m : Mm} {Q : Wd → Mm → Prop} {a b : Wd} {xs ys : List Wd} (h : tupOf a = some xs) (h' : tupOf b = some ys) (hl : xs.length + ys.length ≤ LIM) : wpO (addO a b m) Q ↔ Q (mkTup (xs ++ ys)) m := by
  cases a with
  | d x =>
    cases x with
    | tuple ds =>
      cases b with
      | d y =>
        cases y with
        | tuple es => unfold addO; simp only [h, h', if_pos hl]; exact Iff.rfl
        | _ => cases h'
      | tup zs => unfold addO; simp only [h, h', if_pos hl]; exact Iff.rfl
      | _ => cases h'
    | _ => cases h
  | tup zs =>
    cases b with
    | d y =>
      cases y with
      | tuple es => unfold addO; simp only [h, h', if_pos hl]; exact Iff.rfl
      | _ => cases h'
    | tup zs => unfold addO; simp only [h, h', if_pos hl]; exact Iff.rfl
    | _ => cases h'
  | _ => cases h
theorem nodup_le {α : Type} [DecidableEq α] : ∀ {l l' : List α}, l.Nodup → (∀ x ∈ l, x ∈ l') → l.length ≤ l'.length
  | [], l', _, _ => Nat.zero_le _
  | x :: r, l', h, hs => by
    rw [List.nodup_cons] at h
    have hx := hs x (by simp)
    have ih := nodup_le (l := r) (l' := l'.erase x) h.2 fun y hy => by
      have hne : y ≠ x := fun e => h.1 (e ▸ hy)
      exact (List.mem_erase_of_ne hne).mpr (hs y (by simp [hy]))
    rw [List.length_erase_of_mem hx] at ih
    have : 0 < l'.length := List.length_pos_of_mem hx
    simp; omega
end DL
set_option Elab.async false
set_option linter.all false
set_option maxRecDepth 100000
set_option maxHeartbeats 2000000
namespace Hn
open PySem PySem.Spec PyProof.Rows L2 DL
/-- the bag at i, its cells' list at r -/
structure Bag (i r : Nat) (m : Mm) : Prop where
  ne : r ≠ i
  bag : ∃ a b c : Int, Has m i (.lst [.d (.int a), .d (.int b), .d (.int c), .ref r]) ∧ 0 ≤ a ∧ 0 ≤ b ∧ 0 ≤ c
  cells : ∃ xs : List Int, Has m r (.lst (xs.map fun x => .d (.int x))) ∧ (∀ x ∈ xs, 0 ≤ x) ∧ xs.length ≤ 63
theorem Bag.fr {i r : Nat} {m m' : Mm} (h : Bag i r m) (f : Fr [] m m') : Bag i r m' :=
  ⟨h.ne, let ⟨a, b, c, h1, h2⟩ := h.bag; ⟨a, b, c, f.has h1, h2⟩, let ⟨xs, h1, h2⟩ := h.cells; ⟨xs, f.has h1, h2⟩⟩
theorem small_of {a : Int} {b : Int} (h : -(2 ^ 64) < b ∧ b < 2 ^ 64) : (small64 a || small64 b) = true := by
  rw [Bool.or_eq_true]; exact .inr (decide_eq_true h)
theorem small_of1 {a : Int} {b : Int} (h : -(2 ^ 64) < a ∧ a < 2 ^ 64) : (small64 a || small64 b) = true := by
  rw [Bool.or_eq_true]; exact .inl (decide_eq_true h)
theorem mod_lt' (a : Int) {n : Int} (h : 0 < n) : 0 ≤ a % n ∧ a % n < n := ⟨Int.emod_nonneg _ (by omega), Int.emod_lt_of_pos _ h⟩
theorem take_ok {i r : Nat} {n : Int} {m : Mm} {Q : Wd → Mm → Prop} (hb : Bag i r m) (h0 : 0 < n) (h1 : n < 1073741824) (h : ∀ v m', 0 ≤ v → v < n → Bag i r m' → Fr [i] m m' → Q (.d (.int v)) m') : wpR (N__law_take [.ref i, .d (.int n)] m) Q := by
  obtain ⟨hne, ⟨a, b, c, hi, ha, hbb, hc⟩, xs, hr, hx, hl⟩ := hb
  have fin : ∀ (a b c : Int) (m1 m2 : Mm) (bb : Bool), Fr [i] m m1 → Has m1 i (.lst [.d (.int a), .d (.int b), .d (.int c), .ref r]) → 0 ≤ a → 0 ≤ b → 0 ≤ c → Cl m.cells.length bb m1 m2 → Bag i r m2 ∧ Fr [i] m m2 := by
    intro a b c m1 m2 bb f h1 h2 h3 h4 hc
    refine ⟨⟨hne, ⟨a, b, c, (hc.eq i hi.lt).trans h1, h2, h3, h4⟩, xs, ?_, hx, hl⟩, f.cl hc⟩
    exact (hc.eq r hr.lt).trans (f.has hr (by simpa using hne))
  unfold N__law_take
  refine w_run ?_
  have e : startE 7 [.ref i, .d (.int n)] = [some (.ref i), some (.d (.int n)), none, none, none, none, none] := rfl
  rw [e]
  unfold b__law_take
  have hi' : Has m.openS i (.lst [.d (.int a), .d (.int b), .d (.int c), .ref r]) := hi
  have hr' : Has m.openS r (.lst (xs.map fun x => .d (.int x))) := hr
  -- the second part, from any bag
  have part2 : ∀ (a b c : Int) (m1 : Mm) (e2' e3 e4 e5 e6 : Option Wd), Fr [i] m m1 → Has m1 i (.lst [.d (.int a), .d (.int b), .d (.int c), .ref r]) → 0 ≤ a → 0 ≤ b → 0 ≤ c →
      wpS ((sSeq (sIf (b2 gtO (e2 ixO (eV 0) (eC (.d (.int 0)))) (eC (.d (.int 0))))
(sSeq (sSet 4 (e2 modO (eN intO1 (aC (e2 ixO (eV 0) (eC (.d (.int 0)))) aN)) (eV 1))) <|
sSeq (sSub (eV 0) (eC (.d (.int 0))) (e2 fdivO (eN intO1 (aC (e2 ixO (eV 0) (eC (.d (.int 0)))) aN)) (eV 1))) <|
sRet (eV 4))
(sNop)) <|
sSeq (sSet 5 (e2 modO (eN intO1 (aC (e2 mulO (e2 addO (e2 ixO (eV 0) (eC (.d (.int 1)))) (eC (.d (.int 1)))) (eC (.d (.int 39373)))) aN)) (eC (.d (.int 1000000007))))) <|
sSeq (sSet 6 (e2 modO (eN intO1 (aC (e2 mulO (e2 modO (eN intO1 (aC (e2 mulO (eV 5) (eV 5)) aN)) (eC (.d (.int 998244353)))) (eC (.d (.int 30011)))) aN)) (eC (.d (.int 998244353))))) <|
sRet (e2 modO (eN intO1 (aC (e2 fdivO (eV 6) (eC (.d (.int 7)))) aN)) (eV 1))) [some (.ref i), some (.d (.int n)), e2', e3, e4, e5, e6] m1) (fun _ m1 => ∀ m2, Cl m.cells.length true m1 m2 → Q (.d .none) m2) (fun f _ m1 => ∃ w, f = .rt w ∧ ∀ m2, Cl m.cells.length (w.lt m.cells.length) m1 m2 → Q w m2) := by
    intro a b c m1 e2' e3 e4 e5 e6 f hi1 ha hb hc
    · simp only [w_seq, w_if, w_set, w_b2, w_bV, w_bAnd, w_bOr, w_bNot, w_e1, w_e2, w_C, w_V, w_augL, w_aug, w_sub, w_eN, w_aC, w_aN, w_sl, w_oS, w_oN, w_ret, w_retN, w_nop, w_drop, w_asg, w_par, w_call, w_eIf, w_eAnd, w_eOr, w_eNot, w_eCh, w_bCh, w_eIsi, w_bk, w_ct, w_for, w_lc, w_dc, w_ran1, w_ran2, w_method, o1_add, o1_sub, o1_iadd, o1_lt, o1_le, o1_gt, o1_ge, o1_neg, o1_mod, o1_fdiv, o1_shr, o1_pow, o1_mul, o1_int, o1_abs, o1_lst, o1_tup, o1_lenT, o1_lenW, o1_lenR, o1_lenS, o1_slR, o1_and, List.getElem?_cons_zero, List.getElem?_cons_succ, List.set_cons_zero, List.set_cons_succ, Option.some.injEq, exists_eq_left', exists_eq_left, Fl.rt.injEq, List.length_cons, List.length_nil, if_true, if_false, Bool.false_eq_true, true_and, and_true, Wd.d.injEq, PyData.bool.injEq, PyData.int.injEq, decide_eq_true_eq, o1_ix hi1 at_0, o1_ix hi1 at_1]
      by_cases hpos : 0 < a
      · simp only [hpos, decide_true, List.getElem?_cons_zero, List.getElem?_cons_succ, List.set_cons_zero, List.set_cons_succ, Option.some.injEq, exists_eq_left', exists_eq_left, Fl.rt.injEq, List.length_cons, List.length_nil, if_true, if_false, Bool.false_eq_true, true_and, and_true, Wd.d.injEq, PyData.bool.injEq, PyData.int.injEq, decide_eq_true_eq, o1_ix hi1 at_0, o1_add, o1_sub, o1_iadd, o1_lt, o1_le, o1_gt, o1_ge, o1_neg, o1_mod, o1_fdiv, o1_shr, o1_pow, o1_mul, o1_int, o1_abs, o1_lst, o1_tup, o1_lenT, o1_lenW, o1_lenR, o1_lenS, o1_slR, o1_and]
        refine ⟨h0, ⟨h0, h1⟩, _, set_of hi1 rfl, fun m2 hcl => ?_⟩
        have hv := mod_lt' a h0
        obtain ⟨g1, g2⟩ := fin (a / n) b c _ m2 _ (f.trans (fr_put (by simp))) (has_put hi1.lt) (Int.ediv_nonneg ha (by omega)) hb hc hcl
        exact h _ m2 hv.1 hv.2 g1 g2
      · simp only [hpos, decide_false, List.getElem?_cons_zero, List.getElem?_cons_succ, List.set_cons_zero, List.set_cons_succ, Option.some.injEq, exists_eq_left', exists_eq_left, Fl.rt.injEq, List.length_cons, List.length_nil, if_true, if_false, Bool.false_eq_true, true_and, and_true, Wd.d.injEq, PyData.bool.injEq, PyData.int.injEq, decide_eq_true_eq, o1_ix hi1 at_1, o1_add, o1_sub, o1_iadd, o1_lt, o1_le, o1_gt, o1_ge, o1_neg, o1_mod, o1_fdiv, o1_shr, o1_pow, o1_mul, o1_int, o1_abs, o1_lst, o1_tup, o1_lenT, o1_lenW, o1_lenR, o1_lenS, o1_slR, o1_and]
        have q1 := mod_lt' ((b + 1) * 39373) (n := 1000000007) (by omega)
        have q2 := mod_lt' ((b + 1) * 39373 % 1000000007 * ((b + 1) * 39373 % 1000000007)) (n := 998244353) (by omega)
        refine ⟨small_of (by omega), by omega, small_of (by omega), by omega, small_of (by omega), by omega, by omega, h0, fun m2 hcl => ?_⟩
        have hv := mod_lt' ((b + 1) * 39373 % 1000000007 * ((b + 1) * 39373 % 1000000007) % 998244353 * 30011 % 998244353 / 7) h0
        obtain ⟨g1, g2⟩ := fin a b c _ m2 _ f hi1 ha hb hc hcl
        exact h _ m2 hv.1 hv.2 g1 g2
  refine w_cut (K1 := fun e m1 => ∃ (a b c : Int) (e2' e3 : Option Wd), e = [some (.ref i), some (.d (.int n)), e2', e3, none, none, none] ∧ Fr [i] m m1 ∧ Has m1 i (.lst [.d (.int a), .d (.int b), .d (.int c), .ref r]) ∧ 0 ≤ a ∧ 0 ≤ b ∧ 0 ≤ c) ?_ fun e m1 he => ?_
  · rw [w_if, w_b2, w_e2, w_V]
    simp only [w_C, List.getElem?_cons_zero, List.getElem?_cons_succ, List.set_cons_zero, List.set_cons_succ, Option.some.injEq, exists_eq_left', exists_eq_left, Fl.rt.injEq, List.length_cons, List.length_nil, if_true, if_false, Bool.false_eq_true, true_and, and_true, Wd.d.injEq, PyData.bool.injEq, PyData.int.injEq, decide_eq_true_eq, o1_ix hi' at_0, o1_eqi]
    by_cases hz : a = 0
    · subst hz
      simp only [decide_true, List.getElem?_cons_zero, List.getElem?_cons_succ, List.set_cons_zero, List.set_cons_succ, Option.some.injEq, exists_eq_left', exists_eq_left, Fl.rt.injEq, List.length_cons, List.length_nil, if_true, if_false, Bool.false_eq_true, true_and, and_true, Wd.d.injEq, PyData.bool.injEq, PyData.int.injEq, decide_eq_true_eq]
      have hm1 : Has m.openS i (.lst [.d (.int 0), .d (.int b), .d (.int c), .ref r]) := hi'
      rw [w_seq, w_set]
      simp only [w_e2, w_C, w_V, w_eN, w_aC, w_aN, w_sl, w_oS, w_oN, o1_add, o1_sub, o1_iadd, o1_lt, o1_le, o1_gt, o1_ge, o1_neg, o1_mod, o1_fdiv, o1_shr, o1_pow, o1_mul, o1_int, o1_abs, o1_lst, o1_tup, o1_lenT, o1_lenW, o1_lenR, o1_lenS, o1_slR, o1_and, List.getElem?_cons_zero, List.getElem?_cons_succ, List.set_cons_zero, List.set_cons_succ, Option.some.injEq, exists_eq_left', exists_eq_left, Fl.rt.injEq, List.length_cons, List.length_nil, if_true, if_false, Bool.false_eq_true, true_and, and_true, Wd.d.injEq, PyData.bool.injEq, PyData.int.injEq, decide_eq_true_eq, o1_ix hm1 at_3, o1_ix hm1 at_2, o1_sl hr']
      refine ⟨by decide, ?_⟩
      generalize hcut : cutW (xs.map fun x => Wd.d (.int x)) (some c) none = cut
      have hcl : cut.length ≤ 63 ∧ ∀ w ∈ cut, ∃ x : Int, w = .d (.int x) ∧ 0 ≤ x := by
        rw [← hcut]
        unfold cutW
        refine ⟨?_, fun w hw => ?_⟩
        · rw [List.length_take, List.length_drop, List.length_map]; omega
        · have := List.mem_of_mem_drop (List.mem_of_mem_take hw)
          obtain ⟨x, h1, h2⟩ := List.mem_map.mp this
          exact ⟨x, h2.symm, hx x h1⟩
      have f1 : Fr [] m.openS (m.openS.push (.lst cut)) := fr_push
      have g1 : Has (m.openS.push (.lst cut)) m.openS.cells.length (.lst cut) := has_push
      rw [o1_cat (g1.push (c' := .lst [.d (.int 0)])) has_push (by show cut.length + 1 ≤ LIM; have := hcl.1; show cut.length + 1 ≤ 16777216; omega)]
      have g3 := has_push (m := (m.openS.push (.lst cut)).push (.lst [.d (.int 0)])) (c := .lst (cut ++ [.d (.int 0)]))
      obtain ⟨x, hx0, hxw⟩ : ∃ x : Int, 0 ≤ x ∧ atI (cut ++ [Wd.d (.int 0)]) 0 = some (.d (.int x)) := by
        cases cut with
        | nil => exact ⟨0, by omega, at_0⟩
        | cons w r =>
          obtain ⟨x, e, h2⟩ := hcl.2 w (by simp)
          exact ⟨x, h2, by rw [e]; exact at_0⟩
      rw [o1_ix g3 hxw]
      have f3 : Fr [i] m (((m.openS.push (.lst cut)).push (.lst [.d (.int 0)])).push (.lst (cut ++ [.d (.int 0)]))) := Fr.of_open (((f1.trans fr_push).trans fr_push).any)
      have hb3 : Has (((m.openS.push (.lst cut)).push (.lst [.d (.int 0)])).push (.lst (cut ++ [.d (.int 0)]))) i (.lst [.d (.int 0), .d (.int b), .d (.int c), .ref r]) := ((hm1.push).push).push
      generalize (((m.openS.push (.lst cut)).push (.lst [.d (.int 0)])).push (.lst (cut ++ [.d (.int 0)]))) = m3 at f3 hb3
      rw [w_seq, w_augL]
      simp only [w_C, w_V, List.getElem?_cons_zero, List.getElem?_cons_succ, List.set_cons_zero, List.set_cons_succ, Option.some.injEq, exists_eq_left', exists_eq_left, Fl.rt.injEq, List.length_cons, List.length_nil, if_true, if_false, Bool.false_eq_true, true_and, and_true, Wd.d.injEq, PyData.bool.injEq, PyData.int.injEq, decide_eq_true_eq, ixL_of hb3 (show (0 : Int) ≤ 2 by omega) rfl, o1_iadd, set_of hb3 (show ixN 4 2 = some 2 from rfl)]
      have f4 : Fr [i] m (m3.put i (.lst [.d (.int 0), .d (.int b), .d (.int (c + 1)), .ref r]) true) := f3.trans (fr_put (by simp))
      have hb4 : Has (m3.put i (.lst [.d (.int 0), .d (.int b), .d (.int (c + 1)), .ref r]) true) i (.lst [.d (.int 0), .d (.int b), .d (.int (c + 1)), .ref r]) := has_put hb3.lt
      have tail : ∀ (a4 : Int) (m4 : Mm), 0 ≤ a4 → Fr [i] m m4 → Has m4 i (.lst [.d (.int a4), .d (.int b), .d (.int (c + 1)), .ref r]) →
          wpS ((sSeq (sSet 3 (e2 addO (e2 addO (e2 mulO (e2 ixO (eV 0) (eC (.d (.int 1)))) (eC (.d (.int 48271)))) (e2 modO (eN intO1 (aC (eV 2) aN)) (eC (.d (.int 2147483647))))) (e2 mulO (eC (.d (.int 7919))) (e2 ixO (eV 0) (eC (.d (.int 2))))))) <|
sSub (eV 0) (eC (.d (.int 1))) (e2 modO (eN intO1 (aC (eV 3) aN)) (eC (.d (.int 2147483647))))) [some (.ref i), some (.d (.int n)), some (.d (.int x)), none, none, none, none] m4) (fun e m1 => ∃ (a b c : Int) (e2' e3 : Option Wd), e = [some (.ref i), some (.d (.int n)), e2', e3, none, none, none] ∧ Fr [i] m m1 ∧ Has m1 i (.lst [.d (.int a), .d (.int b), .d (.int c), .ref r]) ∧ 0 ≤ a ∧ 0 ≤ b ∧ 0 ≤ c) (fun f _ m1 => ∃ w, f = .rt w ∧ ∀ m2, Cl m.cells.length (w.lt m.cells.length) m1 m2 → Q w m2) := by
        intro a4 m4 ha4 f4 h4
        simp only [w_seq, w_if, w_set, w_b2, w_bV, w_bAnd, w_bOr, w_bNot, w_e1, w_e2, w_C, w_V, w_augL, w_aug, w_sub, w_eN, w_aC, w_aN, w_sl, w_oS, w_oN, w_ret, w_retN, w_nop, w_drop, w_asg, w_par, w_call, w_eIf, w_eAnd, w_eOr, w_eNot, w_eCh, w_bCh, w_eIsi, w_bk, w_ct, w_for, w_lc, w_dc, w_ran1, w_ran2, w_method, o1_add, o1_sub, o1_iadd, o1_lt, o1_le, o1_gt, o1_ge, o1_neg, o1_mod, o1_fdiv, o1_shr, o1_pow, o1_mul, o1_int, o1_abs, o1_lst, o1_tup, o1_lenT, o1_lenW, o1_lenR, o1_lenS, o1_slR, o1_and, List.getElem?_cons_zero, List.getElem?_cons_succ, List.set_cons_zero, List.set_cons_succ, Option.some.injEq, exists_eq_left', exists_eq_left, Fl.rt.injEq, List.length_cons, List.length_nil, if_true, if_false, Bool.false_eq_true, true_and, and_true, Wd.d.injEq, PyData.bool.injEq, PyData.int.injEq, decide_eq_true_eq, o1_ix h4 at_1, o1_ix h4 at_2]
        refine ⟨small_of (by omega), by omega, small_of1 (by omega), by omega, _, set_of h4 (show ixN 4 1 = some 1 from rfl), a4, _, c + 1, _, _, rfl, f4.trans (fr_put (by simp)), has_put h4.lt, ha4, (mod_lt' _ (by omega)).1, by omega⟩
      rw [w_seq, w_if]
      simp only [w_b2, w_e2, w_C, w_V, List.getElem?_cons_zero, List.getElem?_cons_succ, List.set_cons_zero, List.set_cons_succ, Option.some.injEq, exists_eq_left', exists_eq_left, Fl.rt.injEq, List.length_cons, List.length_nil, if_true, if_false, Bool.false_eq_true, true_and, and_true, Wd.d.injEq, PyData.bool.injEq, PyData.int.injEq, decide_eq_true_eq, o1_pow, o1_ge]
      refine ⟨by decide, ?_⟩
      by_cases hbig : (10 : Int) ^ (Int.toNat 18) ≤ x
      · simp only [hbig, decide_true, List.getElem?_cons_zero, List.getElem?_cons_succ, List.set_cons_zero, List.set_cons_succ, Option.some.injEq, exists_eq_left', exists_eq_left, Fl.rt.injEq, List.length_cons, List.length_nil, if_true, if_false, Bool.false_eq_true, true_and, and_true, Wd.d.injEq, PyData.bool.injEq, PyData.int.injEq, decide_eq_true_eq, w_sub, w_V, w_C]
        exact ⟨_, set_of hb4 (show ixN 4 0 = some 0 from rfl), tail x _ hx0 (f4.trans (fr_put (by simp))) (has_put hb4.lt)⟩
      · simp only [hbig, decide_false, List.getElem?_cons_zero, List.getElem?_cons_succ, List.set_cons_zero, List.set_cons_succ, Option.some.injEq, exists_eq_left', exists_eq_left, Fl.rt.injEq, List.length_cons, List.length_nil, if_true, if_false, Bool.false_eq_true, true_and, and_true, Wd.d.injEq, PyData.bool.injEq, PyData.int.injEq, decide_eq_true_eq, w_nop]
        exact tail 0 _ (by omega) f4 hb4
    · simp only [hz, decide_false, List.getElem?_cons_zero, List.getElem?_cons_succ, List.set_cons_zero, List.set_cons_succ, Option.some.injEq, exists_eq_left', exists_eq_left, Fl.rt.injEq, List.length_cons, List.length_nil, if_true, if_false, Bool.false_eq_true, true_and, and_true, Wd.d.injEq, PyData.bool.injEq, PyData.int.injEq, decide_eq_true_eq, w_nop]
      exact ⟨a, b, c, none, none, rfl, fr_open, hi', ha, hbb, hc⟩
  · obtain ⟨a', b', c', e2', e3, rfl, f, h1, h2, h3, h4⟩ := he
    exact part2 a' b' c' m1 e2' e3 none none none f h1 h2 h3 h4
theorem some_ok {i r : Nat} {m : Mm} {w : Wd} {ws : List Wd} {Q : Wd → Mm → Prop} (hb : Bag i r m) (hs : seqOf m w = some ws) (hw : w ≠ .ref i) (h0 : 0 < ws.length) (h1 : ws.length < 1073741824)
    (h : ∀ (k : Nat) w' m', ws[k]? = some w' → Bag i r m' → Fr [i] m m' → Q w' m') : wpR (N__law_some [.ref i, w] m) Q := by
  unfold N__law_some
  refine w_run ?_
  have e : startE 2 [.ref i, w] = [some (.ref i), some w] := rfl
  rw [e]
  unfold b__law_some
  have hb' : Bag i r m.openS := hb.fr fr_open
  have hs' : seqOf m.openS w = some ws := seqOf_fr (S := []) fr_open hs (by simp)
  simp only [w_seq, w_if, w_set, w_b2, w_bV, w_bAnd, w_bOr, w_bNot, w_e1, w_e2, w_C, w_V, w_augL, w_aug, w_sub, w_eN, w_aC, w_aN, w_sl, w_oS, w_oN, w_ret, w_retN, w_nop, w_drop, w_asg, w_par, w_call, w_eIf, w_eAnd, w_eOr, w_eNot, w_eCh, w_bCh, w_eIsi, w_bk, w_ct, w_for, w_lc, w_dc, w_ran1, w_ran2, w_method, List.getElem?_cons_zero, List.getElem?_cons_succ, List.set_cons_zero, List.set_cons_succ, Option.some.injEq, exists_eq_left', exists_eq_left, Fl.rt.injEq, List.length_cons, List.length_nil, if_true, if_false, Bool.false_eq_true, true_and, and_true, Wd.d.injEq, PyData.bool.injEq, PyData.int.injEq, decide_eq_true_eq, o1_lens hs', true_and]
  refine take_ok hb' (by omega) (by omega) fun v m1 hv0 hv1 hb1 f1 => ?_
  obtain ⟨k, rfl⟩ : ∃ k : Nat, v = (k : Int) := ⟨v.toNat, by omega⟩
  have hk : k < ws.length := by omega
  have hs1 : seqOf m1 w = some ws := seqOf_fr f1 hs' (fun n e => by subst e; simp; exact fun q => hw (by rw [q]))
  rw [ix_of hs1 (w := ws[k]) (by rw [at_nat hk]; exact List.getElem?_eq_getElem hk)]
  refine fun m2 hc => (h k _ m2 (List.getElem?_eq_getElem hk) ⟨hb1.ne, ?_, ?_⟩ ((Fr.of_open f1).cl hc))
  · obtain ⟨a, b, c, q1, q2⟩ := hb1.bag
    obtain ⟨a', b', c', p1, _⟩ := hb.bag
    exact ⟨a, b, c, (hc.eq i p1.lt).trans q1, q2⟩
  · obtain ⟨xs, q1, q2⟩ := hb1.cells
    obtain ⟨xs', p1, _⟩ := hb.cells
    exact ⟨xs, (hc.eq r p1.lt).trans q1, q2⟩
theorem bag_ok {ns : List Int} {m : Mm} {Q : Wd → Mm → Prop} (hl : ns.length ≤ 63) (h : ∀ i r m', Bag i r m' → Fr [] m m' → m.cells.length ≤ i → Q (.ref i) m') : wpR (N__law_bag [scriptW ns] m) Q := by
  unfold N__law_bag
  refine w_run ?_
  have e : startE 2 [scriptW ns] = [some (scriptW ns), none] := rfl
  rw [e]
  unfold b__law_bag
  have hcut : ∃ ks : List Int, cutW (ns.map fun i => Wd.d (.int i)) none (some 63) = ks.map (fun i => Wd.d (.int i)) ∧ ks.length ≤ 63 := by
    unfold cutW
    rw [← List.map_drop, ← List.map_take]
    exact ⟨_, rfl, by rw [List.length_take, List.length_drop]; omega⟩
  obtain ⟨ks, hks, hkl⟩ := hcut
  simp only [w_ret, w_eN, w_aC, w_C, w_aN, w_lc, w_val (f := eSl _ _ _), w_sl, w_V, List.getElem?_cons_zero, List.getElem?_cons_succ, List.set_cons_zero, List.set_cons_succ, Option.some.injEq, exists_eq_left', exists_eq_left, Fl.rt.injEq, List.length_cons, List.length_nil, if_true, if_false, Bool.false_eq_true, true_and, and_true, Wd.d.injEq, PyData.bool.injEq, PyData.int.injEq, decide_eq_true_eq, w_oN, w_oS, scriptW, o1_slR, hks]
  have g1 : Has (m.openS.push (.lst (ks.map fun i => Wd.d (.int i)))) m.openS.cells.length (.lst (ks.map fun i => Wd.d (.int i))) := has_push
  show wpR (iVal (eC (Wd.ref m.openS.cells.length)) _ _) _
  generalize hm1 : m.openS.push (.lst (ks.map fun i => Wd.d (.int i))) = m1 at g1
  have f1 : Fr [] m.openS m1 := by rw [← hm1]; exact fr_push
  have e1 : iVal (eC (Wd.ref m.openS.cells.length)) [some (Wd.rol (ns.map fun i => Wd.d (.int i))), none] m1 = .ok (ks.map fun i => Wd.d (.int i), [(m.openS.cells.length, .lst (ks.map fun i => Wd.d (.int i)))]) m1 := by
    show (match m1.cells[m.openS.cells.length]? with | some (.lst xs) => Rs.ok (xs, [(m.openS.cells.length, Cell.lst xs)]) m1 | _ => .stuck) = _
    rw [show m1.cells[m.openS.cells.length]? = _ from g1]
  rw [e1, wpR_ok]
  refine w_lc0 (fun k acc m2 => m2 = m1 ∧ ∃ js : List Int, acc = js.map (fun i => Wd.d (.int i)) ∧ js.length = k ∧ ∀ x ∈ js, 0 ≤ x) ⟨rfl, [], rfl, rfl, by simp⟩ (fun k acc m2 hI => by rw [hI.1]; exact gdOk_one g1) (fun k acc m2 w hw hI => ?_) fun acc m2 hI => ?_
  · obtain ⟨rfl, js, rfl, hj, hpos⟩ := hI
    rw [List.getElem?_map] at hw
    obtain ⟨x, hx, rfl⟩ := Option.map_eq_some_iff.mp hw
    refine ⟨_, rfl, ?_⟩
    have hk : k < ks.length := (List.getElem?_eq_some_iff.mp hx).1
    simp only [forget, List.set_cons_zero, List.set_cons_succ, wpR_ok, if_true, w_eN, w_aC, w_aN, w_V, List.getElem?_cons_zero, List.getElem?_cons_succ, List.set_cons_zero, List.set_cons_succ, Option.some.injEq, exists_eq_left', exists_eq_left, Fl.rt.injEq, List.length_cons, List.length_nil, if_true, if_false, Bool.false_eq_true, true_and, and_true, Wd.d.injEq, PyData.bool.injEq, PyData.int.injEq, decide_eq_true_eq, o1_abs]
    refine ⟨by rw [List.length_map, hj]; show k < 16777216; omega, js ++ [if x < 0 then -x else x], by simp, by simp [hj], fun y hy => ?_⟩
    rcases List.mem_append.mp hy with q | q
    · exact hpos y q
    · rw [List.mem_singleton.mp q]
      split <;> omega
  · obtain ⟨rfl, js, rfl, hj, hpos⟩ := hI
    rw [List.length_map] at hj
    simp only [o1_lst, List.getElem?_cons_zero, List.getElem?_cons_succ, List.set_cons_zero, List.set_cons_succ, Option.some.injEq, exists_eq_left', exists_eq_left, Fl.rt.injEq, List.length_cons, List.length_nil, if_true, if_false, Bool.false_eq_true, true_and, and_true, Wd.d.injEq, PyData.bool.injEq, PyData.int.injEq, decide_eq_true_eq]
    refine ⟨by decide, fun m3 hc => ?_⟩
    have hlt : (m2.push (.lst (js.map fun i => Wd.d (.int i)))).cells.length = m2.cells.length + 1 := by simp [Mm.push]
    have hsame : m3.cells = _ := hc.same (by
      show decide ((m2.push (.lst (js.map fun i => Wd.d (.int i)))).cells.length < m.cells.length) = false
      rw [decide_eq_false_iff_not, hlt]
      have := f1.le
      show ¬ (m2.cells.length + 1 < m.openS.cells.length)
      omega)
    have f2 : Fr [] m.openS ((m2.push (.lst (js.map fun i => Wd.d (.int i)))).push (.lst [.d (.int 0), .d (.int 1234567891), .d (.int 0), .ref m2.cells.length])) := (f1.trans fr_push).trans fr_push
    refine h _ m2.cells.length m3 ⟨by rw [hlt]; omega, ⟨0, 1234567891, 0, ?_, by omega, by omega, by omega⟩, js, ?_, hpos, by omega⟩ ((Fr.of_open f2).cl hc) (by rw [hlt]; have := f1.le; show m.openS.cells.length ≤ _; omega)
    · show m3.cells[_]? = _
      rw [hsame]
      exact has_push
    · show m3.cells[_]? = _
      rw [hsame]
      exact (has_push (m := m2)).push
/-- pairs still to be looked at -/
inductive Prs (m : Mm) : List Wd → List PyData → Prop
  | nil : Prs m [] []
  | cons {u u' : Wd} {y : PyData} {ps : List Wd} {ys : List PyData} : Rd m u y → Rd m u' y → Prs m ps ys → Prs m (mkTup [u, u'] :: ps) (y :: ys)
theorem Prs.fr {m m' : Mm} (f : Fr [] m m') {ps : List Wd} {ys : List PyData} (h : Prs m ps ys) : Prs m' ps ys := by
  induction h with
  | nil => exact .nil
  | cons h1 h2 _ ih => exact .cons (h1.fr f) (h2.fr f) ih
theorem Prs.length {m : Mm} {ps : List Wd} {ys : List PyData} (h : Prs m ps ys) : ps.length = ys.length := by
  induction h with
  | nil => rfl
  | cons _ _ _ ih => simp [ih]
theorem Prs.append {m : Mm} {ps qs : List Wd} {ys zs : List PyData} (h : Prs m ps ys) (h2 : Prs m qs zs) : Prs m (ps ++ qs) (ys ++ zs) := by
  induction h with
  | nil => exact h2
  | cons h1 h1' _ ih => exact .cons h1 h1' ih
theorem prs_zip {m : Mm} : ∀ {ys : List PyData} {us us' : List Wd}, Rds m us ys → Rds m us' ys → Prs m ((us.zip us').map fun p => mkTup [p.1, p.2]) ys
  | _, _, _, .nil, .nil => .nil
  | _, _, _, .cons h hs, .cons h' hs' => .cons h h' (prs_zip hs hs')
/-- a frame but for p, where p does not matter -/
def NoP (p : Nat) (m : Mm) : Prop := True
theorem alike_ok {m : Mm} {w w' : Wd} {x : PyData} {Q : Wd → Mm → Prop} (hw : Rd m w x) (hw' : Rd m w' x) (hsz : psz x ≤ LIM) (h : ∀ m', Fr [] m m' → Q (.d (.bool true)) m') : wpR (N__law_alike [w, w'] m) Q := by
  unfold N__law_alike
  refine w_run ?_
  have e : startE 6 [w, w'] = [some w, some w', none, none, none, none] := rfl
  rw [e]
  unfold b__law_alike
  simp only [w_seq, w_par, w_aC, w_aN, w_eN, w_C, w_V, List.getElem?_cons_zero, List.getElem?_cons_succ, List.set_cons_zero, List.set_cons_succ, Option.some.injEq, exists_eq_left', exists_eq_left, Fl.rt.injEq, List.length_cons, List.length_nil, if_true, if_false, Bool.false_eq_true, true_and, and_true, Wd.d.injEq, PyData.bool.injEq, PyData.int.injEq, decide_eq_true_eq, o1_tup, o1_lst]
  refine ⟨by decide, by decide, _, rfl, ?_⟩
  generalize hm1 : m.openS.push (.lst [mkTup [w, w']]) = m1
  have f1 : Fr [] m m1 := by rw [← hm1]; exact Fr.of_open fr_push
  have g1 : Has m1 m.cells.length (.lst [mkTup [w, w']]) := by rw [← hm1]; exact has_push
  refine w_while (fun k e mm => ∃ (at_ : Nat) (ps rest : List Wd) (ys : List PyData) (e4 e5 : Option Wd), e = [some w, some w', some (.ref m.cells.length), some (.d (.int at_)), e4, e5] ∧ Fr [] m mm ∧ Has mm m.cells.length (.lst ps) ∧ ps.drop at_ = rest ∧ at_ ≤ ps.length ∧
    Prs m rest ys ∧ k = pszs ys ∧ at_ + k = psz x) ?_ (psz x) _ m1 ⟨0, [mkTup [w, w']], _, [x], none, none, rfl, f1, g1, rfl, by simp, .cons hw hw' .nil, by simp [pszs], by omega⟩
  rintro k e mm ⟨at_, ps, rest, ys, e4, e5, rfl, f, hp, hrest, hle, hprs, rfl, htot⟩
  rw [w_b2]
  simp only [w_V, w_eN, w_aC, w_aN, List.getElem?_cons_zero, List.getElem?_cons_succ, List.set_cons_zero, List.set_cons_succ, Option.some.injEq, exists_eq_left', exists_eq_left, Fl.rt.injEq, List.length_cons, List.length_nil, if_true, if_false, Bool.false_eq_true, true_and, and_true, Wd.d.injEq, PyData.bool.injEq, PyData.int.injEq, decide_eq_true_eq, o1_len hp, o1_lt]
  have hlen : ps.length = at_ + rest.length := by rw [← hrest, List.length_drop]; omega
  cases hprs with
  | nil =>
    have : ¬ ((at_ : Int) < (ps.length : Int)) := by simp at hlen; omega
    simp only [this, decide_false, List.getElem?_cons_zero, List.getElem?_cons_succ, List.set_cons_zero, List.set_cons_succ, Option.some.injEq, exists_eq_left', exists_eq_left, Fl.rt.injEq, List.length_cons, List.length_nil, if_true, if_false, Bool.false_eq_true, true_and, and_true, Wd.d.injEq, PyData.bool.injEq, PyData.int.injEq, decide_eq_true_eq, w_ret, w_C]
    exact fun m2 hc => h m2 (f.cl hc)
  | @cons u u' y ps' ys' hu hu' hps =>
    have : ((at_ : Int) < (ps.length : Int)) := by simp at hlen; omega
    simp only [this, decide_true, List.getElem?_cons_zero, List.getElem?_cons_succ, List.set_cons_zero, List.set_cons_succ, Option.some.injEq, exists_eq_left', exists_eq_left, Fl.rt.injEq, List.length_cons, List.length_nil, if_true, if_false, Bool.false_eq_true, true_and, and_true, Wd.d.injEq, PyData.bool.injEq, PyData.int.injEq, decide_eq_true_eq]
    have hat : atI ps (at_ : Int) = some (mkTup [u, u']) := by
      rw [at_nat (by simp at hlen; omega)]
      have : (ps.drop at_)[0]? = some (mkTup [u, u']) := by rw [hrest]; rfl
      rwa [List.getElem?_drop, Nat.add_zero] at this
    have hpsz : pszs (y :: ys') = psz y + pszs ys' := rfl
    have hy1 := psz_pos y
    have hu1 := hu.fr f
    have hu1' := hu'.fr f
    rw [hpsz] at htot ⊢
    have hrest' : ps.drop (at_ + 1) = ps' := by rw [← List.drop_drop, hrest]; rfl
    have hle' : at_ + 1 ≤ ps.length := by simp at hlen; omega
    simp only [w_seq, w_asg, w_e2, w_C, w_V, List.getElem?_cons_zero, List.getElem?_cons_succ, List.set_cons_zero, List.set_cons_succ, Option.some.injEq, exists_eq_left', exists_eq_left, Fl.rt.injEq, List.length_cons, List.length_nil, if_true, if_false, Bool.false_eq_true, true_and, and_true, Wd.d.injEq, PyData.bool.injEq, PyData.int.injEq, decide_eq_true_eq, o1_ix hp hat, Tg.put, tupOf_mk, Option.bind_some, Tg.putAll, w_aug, o1_iadd, w_if, w_bOr, w_b2, w_eIsi, rd_ty hu1, rd_ty hu1', o1_neb, beq_self_eq_true, Bool.not_true, w_nop, w_bV]
    have hcast : (at_ : Int) + 1 = ((at_ + 1 : Nat) : Int) := rfl
    cases y with
    | list ds =>
      obtain ⟨us, q1, r1⟩ := rd_seq (m := m) (.inr hu)
      obtain ⟨us', q2, r2⟩ := rd_seq (m := m) (.inr hu')
      have q1' := seqOf_fr (S := []) f q1 (by simp)
      have q2' := seqOf_fr (S := []) f q2 (by simp)
      have hk : isLW u = isLW u' := by rw [rd_lw hu (by simp [tyD]), rd_lw hu' (by simp [tyD])]
      refine ⟨true, rfl, ?_⟩
      have hlen2 : us.length = us'.length := r1.length.trans r2.length.symm
      simp only [List.getElem?_cons_zero, List.getElem?_cons_succ, List.set_cons_zero, List.set_cons_succ, Option.some.injEq, exists_eq_left', exists_eq_left, Fl.rt.injEq, List.length_cons, List.length_nil, if_true, if_false, Bool.false_eq_true, true_and, and_true, Wd.d.injEq, PyData.bool.injEq, PyData.int.injEq, decide_eq_true_eq, w_eN, w_aC, w_aN, w_V, o1_lens q1', o1_lens q2', o1_nei, hlen2, decide_true, Bool.not_true, w_drop, w_method]
      refine ⟨_, ps, rfl, hp, ?_⟩
      rw [o1_lz hk q1' q2']
      have hz : (((us.zip us').map fun p => mkTup [p.1, p.2])).length = ds.length := by rw [List.length_map, List.length_zip, r1.length, r2.length]; omega
      have hds := pszs_len ds
      have hpl := hps.length
      have hpl2 := pszs_len ys'
      have hpy : psz (.list ds) = pszs ds + 1 := rfl
      have h16 : psz x ≤ 16777216 := hsz
      rw [o1_ext (hp.push) has_push (by rw [hz]; show _ ≤ 16777216; simp at hlen; omega)]
      have fz : Fr [] mm (mm.push (.lst ((us.zip us').map fun p => mkTup [p.1, p.2]))) := fr_push
      refine ⟨pszs (ys' ++ ds), by rw [pszs_append]; omega, at_ + 1, _, _, ys' ++ ds, _, _, rfl, ((Fr.any (S := [m.cells.length]) (f.trans fz)).trans (fr_put (by simp))).sub (fun j hj => .inr (by simp at hj; omega)), has_put (by have := hp.lt; simp [Mm.push]; omega), rfl, by rw [List.length_append]; omega, ?_, rfl, by rw [pszs_append]; omega⟩
      rw [List.drop_append_of_le_length hle', hrest']
      exact hps.append (prs_zip r1 r2)
    | tuple ds =>
      obtain ⟨us, q1, r1⟩ := rd_seq (m := m) (.inl hu)
      obtain ⟨us', q2, r2⟩ := rd_seq (m := m) (.inl hu')
      have q1' := seqOf_fr (S := []) f q1 (by simp)
      have q2' := seqOf_fr (S := []) f q2 (by simp)
      have hk : isLW u = isLW u' := by rw [rd_lw hu (by simp [tyD]), rd_lw hu' (by simp [tyD])]
      refine ⟨true, rfl, ?_⟩
      have hlen2 : us.length = us'.length := r1.length.trans r2.length.symm
      simp only [List.getElem?_cons_zero, List.getElem?_cons_succ, List.set_cons_zero, List.set_cons_succ, Option.some.injEq, exists_eq_left', exists_eq_left, Fl.rt.injEq, List.length_cons, List.length_nil, if_true, if_false, Bool.false_eq_true, true_and, and_true, Wd.d.injEq, PyData.bool.injEq, PyData.int.injEq, decide_eq_true_eq, w_eN, w_aC, w_aN, w_V, o1_lens q1', o1_lens q2', o1_nei, hlen2, decide_true, Bool.not_true, w_drop, w_method]
      refine ⟨_, ps, rfl, hp, ?_⟩
      rw [o1_lz hk q1' q2']
      have hz : (((us.zip us').map fun p => mkTup [p.1, p.2])).length = ds.length := by rw [List.length_map, List.length_zip, r1.length, r2.length]; omega
      have hds := pszs_len ds
      have hpl := hps.length
      have hpl2 := pszs_len ys'
      have hpy : psz (.tuple ds) = pszs ds + 1 := rfl
      have h16 : psz x ≤ 16777216 := hsz
      rw [o1_ext (hp.push) has_push (by rw [hz]; show _ ≤ 16777216; simp at hlen; omega)]
      have fz : Fr [] mm (mm.push (.lst ((us.zip us').map fun p => mkTup [p.1, p.2]))) := fr_push
      refine ⟨pszs (ys' ++ ds), by rw [pszs_append]; omega, at_ + 1, _, _, ys' ++ ds, _, _, rfl, ((Fr.any (S := [m.cells.length]) (f.trans fz)).trans (fr_put (by simp))).sub (fun j hj => .inr (by simp at hj; omega)), has_put (by have := hp.lt; simp [Mm.push]; omega), rfl, by rw [List.length_append]; omega, ?_, rfl, by rw [pszs_append]; omega⟩
      rw [List.drop_append_of_le_length hle', hrest']
      exact hps.append (prs_zip r1 r2)
    | dict ds => cases hu with | d h => cases h
    | none =>
      have hone : psz (.none) = 1 := rfl
      cases hu1 with
      | d _ =>
        cases hu1' with
        | d _ =>
          refine ⟨false, rfl, ?_⟩
          simp only [List.getElem?_cons_zero, List.getElem?_cons_succ, List.set_cons_zero, List.set_cons_succ, Option.some.injEq, exists_eq_left', exists_eq_left, Fl.rt.injEq, List.length_cons, List.length_nil, if_true, if_false, Bool.false_eq_true, true_and, and_true, Wd.d.injEq, PyData.bool.injEq, PyData.int.injEq, decide_eq_true_eq]
          rw [o1_nes (by simp)]
          simp only [List.getElem?_cons_zero, List.getElem?_cons_succ, List.set_cons_zero, List.set_cons_succ, Option.some.injEq, exists_eq_left', exists_eq_left, Fl.rt.injEq, List.length_cons, List.length_nil, if_true, if_false, Bool.false_eq_true, true_and, and_true, Wd.d.injEq, PyData.bool.injEq, PyData.int.injEq, decide_eq_true_eq, w_nop]
          exact ⟨pszs ys', by omega, at_ + 1, ps, _, ys', _, _, rfl, f, hp, rfl, hle', by rw [hrest']; exact hps, rfl, by omega⟩
    | bool b0 =>
      have hone : psz (.bool b0) = 1 := rfl
      cases hu1 with
      | d _ =>
        cases hu1' with
        | d _ =>
          refine ⟨false, rfl, ?_⟩
          simp only [List.getElem?_cons_zero, List.getElem?_cons_succ, List.set_cons_zero, List.set_cons_succ, Option.some.injEq, exists_eq_left', exists_eq_left, Fl.rt.injEq, List.length_cons, List.length_nil, if_true, if_false, Bool.false_eq_true, true_and, and_true, Wd.d.injEq, PyData.bool.injEq, PyData.int.injEq, decide_eq_true_eq]
          rw [o1_nes (by simp)]
          simp only [List.getElem?_cons_zero, List.getElem?_cons_succ, List.set_cons_zero, List.set_cons_succ, Option.some.injEq, exists_eq_left', exists_eq_left, Fl.rt.injEq, List.length_cons, List.length_nil, if_true, if_false, Bool.false_eq_true, true_and, and_true, Wd.d.injEq, PyData.bool.injEq, PyData.int.injEq, decide_eq_true_eq, w_nop]
          exact ⟨pszs ys', by omega, at_ + 1, ps, _, ys', _, _, rfl, f, hp, rfl, hle', by rw [hrest']; exact hps, rfl, by omega⟩
    | int b0 =>
      have hone : psz (.int b0) = 1 := rfl
      cases hu1 with
      | d _ =>
        cases hu1' with
        | d _ =>
          refine ⟨false, rfl, ?_⟩
          simp only [List.getElem?_cons_zero, List.getElem?_cons_succ, List.set_cons_zero, List.set_cons_succ, Option.some.injEq, exists_eq_left', exists_eq_left, Fl.rt.injEq, List.length_cons, List.length_nil, if_true, if_false, Bool.false_eq_true, true_and, and_true, Wd.d.injEq, PyData.bool.injEq, PyData.int.injEq, decide_eq_true_eq]
          rw [o1_nes (by simp)]
          simp only [List.getElem?_cons_zero, List.getElem?_cons_succ, List.set_cons_zero, List.set_cons_succ, Option.some.injEq, exists_eq_left', exists_eq_left, Fl.rt.injEq, List.length_cons, List.length_nil, if_true, if_false, Bool.false_eq_true, true_and, and_true, Wd.d.injEq, PyData.bool.injEq, PyData.int.injEq, decide_eq_true_eq, w_nop]
          exact ⟨pszs ys', by omega, at_ + 1, ps, _, ys', _, _, rfl, f, hp, rfl, hle', by rw [hrest']; exact hps, rfl, by omega⟩
    | str b0 =>
      have hone : psz (.str b0) = 1 := rfl
      cases hu1 with
      | d _ =>
        cases hu1' with
        | d _ =>
          refine ⟨false, rfl, ?_⟩
          simp only [List.getElem?_cons_zero, List.getElem?_cons_succ, List.set_cons_zero, List.set_cons_succ, Option.some.injEq, exists_eq_left', exists_eq_left, Fl.rt.injEq, List.length_cons, List.length_nil, if_true, if_false, Bool.false_eq_true, true_and, and_true, Wd.d.injEq, PyData.bool.injEq, PyData.int.injEq, decide_eq_true_eq]
          rw [o1_nes (by simp)]
          simp only [List.getElem?_cons_zero, List.getElem?_cons_succ, List.set_cons_zero, List.set_cons_succ, Option.some.injEq, exists_eq_left', exists_eq_left, Fl.rt.injEq, List.length_cons, List.length_nil, if_true, if_false, Bool.false_eq_true, true_and, and_true, Wd.d.injEq, PyData.bool.injEq, PyData.int.injEq, decide_eq_true_eq, w_nop]
          exact ⟨pszs ys', by omega, at_ + 1, ps, _, ys', _, _, rfl, f, hp, rfl, hle', by rw [hrest']; exact hps, rfl, by omega⟩
/-- if not _law_alike(F, G): return False -/
theorem chk_ok {F G : Em Wd} {env : DL.Env} {m : Mm} {K : DL.Env → Mm → Prop} {QS : Fl → DL.Env → Mm → Prop} (h : wpR (F env m) fun a m1 => wpR (G env m1) fun b m2 => ∃ x, Rd m2 a x ∧ Rd m2 b x ∧ psz x ≤ LIM ∧ ∀ m3, Fr [] m2 m3 → K env m3) :
    wpS (sIf (bNot (bV (eCall 2 N__law_alike (aC F (aC G aN))))) (sRet (eC (.d (.bool false)))) (sNop) env m) K QS := by
  rw [w_if, w_bNot, w_bV, w_call, w_aC]
  refine wpR_mono h fun a m1 h => ?_
  rw [w_aC]
  refine wpR_mono h fun b m2 h => ?_
  obtain ⟨x, h1, h2, h3, h4⟩ := h
  rw [w_aN]
  refine ⟨rfl, alike_ok h1 h2 h3 fun m3 f => ⟨true, rfl, ?_⟩⟩
  exact h4 m3 f
end Hn
set_option Elab.async false
set_option linter.all false
set_option maxRecDepth 100000
set_option maxHeartbeats 2000000
namespace K01
open PySem PySem.Spec PyProof.Rows L2 DL Hn
noncomputable section
def d_LETTERS : PyData := (.str "abcdefghijklmnopqrstuvwxyz")
def d_MOST_NAME : PyData := (.int 8)
def d_RESERVED : PyData := (.tuple [(.str "by"), (.str "hears"), (.str "move"), (.str "no"), (.str "open"), (.str "sign"), (.str "sounds"), (.str "state"), (.str "to"), (.str "witness"), (.str "yes")])
/-- _law_word(bag): 0=bag 1=some -/
def b__law_word : Sm :=
sSeq (sSet 1 (eN lstO (aC (eC (.d (.str "a"))) (aC (eC (.d (.str "zz"))) (aC (eC (.d (.str "by"))) (aC (eC (.d (.str "hears"))) (aC (eC (.d (.str "move"))) (aC (eC (.d (.str "no"))) (aC (eC (.d (.str "open"))) (aC (eC (.d (.str "sign"))) (aC (eC (.d (.str "sounds"))) (aC (eC (.d (.str "state"))) (aC (eC (.d (.str "to"))) (aC (eC (.d (.str "witness"))) (aC (eC (.d (.str "yes"))) (aC (eC (.d (.str "abcdefgh"))) aN)))))))))))))))) <|
sRet (eCall 2 N__law_some (aC (eV 0) (aC (e2 addO (eV 1) (eN lstO (aC (eC (.d (.str "abcdefghi"))) (aC (eC (.d (.str ""))) (aC (eC (.d (.str "A"))) (aC (eC (.d (.str "a1"))) (aC (eC (.d (.str "a "))) (aC (eC (.d (.str "nos"))) (aC (eC (.d (.str "a-b"))) (aC (eC (.d .none)) (aC (eC (.d (.int 7))) (aC (eC (.d (.bool true))) (aC (eN tupO (aC (eC (.d (.str "a"))) aN)) (aC (eN lstO (aC (eC (.d (.str "a"))) aN)) aN)))))))))))))) aN)))
@[irreducible] def N__law_word : Fn := runF 2 b__law_word
/-- is_integer(thing): 0=thing -/
def b_is_integer : Sm :=
sRet (eAnd (eIsi ["int"] (eV 0)) (eNot (eIsi ["bool"] (eV 0))))
@[irreducible] def N_is_integer : Fn := runF 1 b_is_integer
/-- is_within(thing, least, most): 0=thing 1=least 2=most -/
def b_is_within : Sm :=
sRet (eAnd (eCall 1 N_is_integer (aC (eV 0) aN)) (eCh leO leO (eV 1) (eV 0) (eV 2)))
@[irreducible] def N_is_within : Fn := runF 3 b_is_within
/-- _law_are_unlike(things): 0=things 1=at -/
def b__law_are_unlike : Sm :=
sRet (e2 eqO (eLc (iRan1 (aC (eN lenO (aC (eV 0) aN)) aN)) (.name 1) (b2 inO (e2 ixO (eV 0) (eV 1)) (eSl (eV 0) oNone (oSome (eV 1)))) (eC (.d (.int 1))) [1]) (eN lstO (aN)))
@[irreducible] def N__law_are_unlike : Fn := runF 2 b__law_are_unlike
/-- is_name(thing): 0=thing 1=sign -/
def b_is_name : Sm :=
sSeq (sIf (bOr (bNot (bV (eIsi ["str"] (eV 0)))) (bOr (bNot (bCh leO leO (eC (.d (.int 1))) (eN lenO (aC (eV 0) aN)) (eC (.d d_MOST_NAME)))) (b2 inO (eV 0) (eC (.d d_RESERVED)))))
(sRet (eC (.d (.bool false))))
(sNop)) <|
sRet (eN allO (aC (eLc (iVal (eV 0)) (.name 1) (fun _ m => .ok true m) (e2 inO (eV 1) (eC (.d d_LETTERS))) [1]) aN))
@[irreducible] def N_is_name : Fn := runF 2 b_is_name
/-- _law_is_name(thing): 0=thing 1=some 2=sign -/
def b__law_is_name : Sm :=
sSeq (sSet 1 (eN tupO (aC (eC (.d (.str "by"))) (aC (eC (.d (.str "hears"))) (aC (eC (.d (.str "move"))) (aC (eC (.d (.str "no"))) (aC (eC (.d (.str "open"))) (aC (eC (.d (.str "sign"))) (aC (eC (.d (.str "sounds"))) (aC (eC (.d (.str "state"))) (aC (eC (.d (.str "to"))) (aC (eC (.d (.str "witness"))) (aC (eC (.d (.str "yes"))) aN))))))))))))) <|
sSeq (sIf (bOr (bNot (bV (eIsi ["str"] (eV 0)))) (bOr (bNot (bCh leO leO (eC (.d (.int 1))) (eN lenO (aC (eV 0) aN)) (eC (.d (.int 8))))) (b2 inO (eV 0) (eV 1))))
(sRet (eC (.d (.bool false))))
(sNop)) <|
sRet (e2 eqO (eLc (iVal (eV 0)) (.name 2) (b2 niO (eV 2) (eC (.d (.str "abcdefghijklmnopqrstuvwxyz")))) (eC (.d (.int 1))) [2]) (eN lstO (aN)))
@[irreducible] def N__law_is_name : Fn := runF 3 b__law_is_name
/-- _law_is_int(thing): 0=thing -/
def b__law_is_int : Sm :=
sRet (eAnd (eIsi ["int"] (eV 0)) (eNot (eIsi ["bool"] (eV 0))))
@[irreducible] def N__law_is_int : Fn := runF 1 b__law_is_int
/-- are_names(thing, least, most): 0=thing 1=least 2=most 3=one -/
def b_are_names : Sm :=
sSeq (sIf (bOr (bNot (bV (eIsi ["tuple"] (eV 0)))) (bOr (bNot (bCh leO leO (eV 1) (eN lenO (aC (eV 0) aN)) (eV 2))) (bNot (bV (eN allO (aC (eLc (iVal (eV 0)) (.name 3) (fun _ m => .ok true m) (eCall 1 N_is_name (aC (eV 3) aN)) [3]) aN))))))
(sRet (eC (.d (.bool false))))
(sNop)) <|
sRet (e2 eqO (eN lenO (aC (eDc (iVal (eV 0)) (.name 3) (fun _ m => .ok true m) (eV 3) (eC (.d (.bool true))) [3]) aN)) (eN lenO (aC (eV 0) aN)))
@[irreducible] def N_are_names : Fn := runF 4 b_are_names
/-- are_some_of(thing, names): 0=thing 1=names 2=one -/
def b_are_some_of : Sm :=
sRet (eAnd (eCall 3 N_are_names (aC (eV 0) (aC (eC (.d (.int 1))) (aC (eN lenO (aC (eV 1) aN)) aN)))) (eN allO (aC (eLc (iVal (eV 0)) (.name 2) (fun _ m => .ok true m) (e2 inO (eV 2) (eV 1)) [2]) aN)))
@[irreducible] def N_are_some_of : Fn := runF 3 b_are_some_of
/-- is_lot(thing, names): 0=thing 1=names -/
def b_is_lot : Sm :=
sRet (eOr (e2 eqO (eV 0) (eN tupO (aN))) (eAnd (eCall 2 N_are_some_of (aC (eV 0) (aC (eV 1) aN))) (e2 eqO (eN listO (aC (eV 0) aN)) (eN sortO (aC (eV 0) aN)))))
@[irreducible] def N_is_lot : Fn := runF 2 b_is_lot
/-- law(script): 0=script 1=bag 2=turn 3=word 4=number 5=least 6=most 7=row 8=thing 9=due 10=names 11=some 12=unlike 13=at 14=one -/
def b_law : Sm :=
sSeq (sSet 1 (eCall 1 N__law_bag (aC (eV 0) aN))) <|
sSeq (sFor (iRan1 (aC (eC (.d (.int 10))) aN)) (.name 2)
(sSeq (sPar [3, 4] (aC (eCall 1 N__law_word (aC (eV 1) aN)) (aC (eCall 2 N__law_some (aC (eV 1) (aC (eN lstO (aC (eC (.d (.int 0))) (aC (eC (.d (.int 1))) (aC (e1 negO (eC (.d (.int 1)))) (aC (eC (.d (.int 7))) (aC (eC (.d (.bool true))) (aC (eC (.d (.bool false))) (aC (eC (.d .none)) (aC (eC (.d (.str "1"))) (aC (e2 powO (eC (.d (.int 10))) (eC (.d (.int 40)))) (aC (eN tupO (aC (eC (.d (.int 1))) aN)) aN))))))))))) aN))) aN))) <|
sSeq (sPar [5, 6] (aC (e2 subO (eCall 2 N__law_take (aC (eV 1) (aC (eC (.d (.int 4))) aN))) (eC (.d (.int 1)))) (aC (eCall 2 N__law_take (aC (eV 1) (aC (eC (.d (.int 9))) aN))) aN))) <|
sSeq (sIf (bNot (bV (eCall 2 N__law_alike (aC (eN lstO (aC (eCall 1 N_is_name (aC (eV 3) aN)) (aC (eCall 1 N_is_integer (aC (eV 4) aN)) aN))) (aC (eN lstO (aC (eCall 1 N__law_is_name (aC (eV 3) aN)) (aC (eCall 1 N__law_is_int (aC (eV 4) aN)) aN))) aN)))))
(sRet (eC (.d (.bool false))))
(sNop)) <|
sSeq (sIf (bNot (bV (eCall 2 N__law_alike (aC (eCall 3 N_is_within (aC (eV 4) (aC (eV 5) (aC (eV 6) aN)))) (aC (eAnd (eCall 1 N__law_is_int (aC (eV 4) aN)) (eCh leO leO (eV 5) (eV 4) (eV 6))) aN)))))
(sRet (eC (.d (.bool false))))
(sNop)) <|
sSeq (sSet 7 (eN tupleO (aC (eLc (iRan1 (aC (eCall 2 N__law_take (aC (eV 1) (aC (eC (.d (.int 4))) aN))) aN)) (.name 13) (fun _ m => .ok true m) (eCall 1 N__law_word (aC (eV 1) aN)) [13]) aN))) <|
sSeq (sFor (iVal (eN tupO (aC (eV 7) (aC (eN listO (aC (eV 7) aN)) (aC (eC (.d .none)) (aC (e2 addO (eV 7) (eV 7)) (aC (eC (.d (.str "ab"))) aN))))))) (.name 8)
(sSeq (sSet 9 (eAnd (eIsi ["tuple"] (eV 8)) (e2 eqO (eLc (iVal (eV 8)) (.name 14) (bNot (bV (eCall 1 N__law_is_name (aC (eV 14) aN)))) (eC (.d (.int 1))) [14]) (eN lstO (aN))))) <|
sSeq (sSet 9 (eAnd (eV 9) (eAnd (eCall 1 N__law_are_unlike (aC (eV 8) aN)) (eCh leO leO (eV 5) (eN lenO (aC (eV 8) aN)) (eV 6))))) <|
sIf (bNot (bV (eCall 2 N__law_alike (aC (eCall 3 N_are_names (aC (eV 8) (aC (eV 5) (aC (eV 6) aN)))) (aC (eV 9) aN)))))
(sRet (eC (.d (.bool false))))
(sNop))) <|
sSeq (sSet 10 (eSl (eN tupO (aC (eC (.d (.str "ab"))) (aC (eC (.d (.str "q"))) (aC (eC (.d (.str "a"))) (aC (eC (.d (.str "zz"))) aN))))) oNone (oSome (e2 addO (eC (.d (.int 1))) (eCall 2 N__law_take (aC (eV 1) (aC (eC (.d (.int 4))) aN))))))) <|
sSeq (sSet 11 (eN tupleO (aC (eLc (iRan1 (aC (eCall 2 N__law_take (aC (eV 1) (aC (eC (.d (.int 4))) aN))) aN)) (.name 13) (fun _ m => .ok true m) (eCall 2 N__law_some (aC (eV 1) (aC (e2 addO (eN listO (aC (eV 10) aN)) (eN lstO (aC (eC (.d .none)) (aC (eC (.d (.str "x"))) aN)))) aN))) [13]) aN))) <|
sFor (iVal (eN tupO (aC (eV 11) (aC (eN listO (aC (eV 11) aN)) (aC (eN tupleO (aC (eN sortO (aC (eV 10) aN)) aN)) (aC (eV 10) (aC (eN tupO (aN)) (aC (eC (.d .none)) (aC (e2 addO (eV 10) (eSl (eV 10) oNone (oSome (eC (.d (.int 1)))))) aN))))))))) (.name 8)
(sSeq (sSet 12 (eAnd (eIsi ["tuple"] (eV 8)) (eAnd (e2 eqO (eLc (iVal (eV 8)) (.name 14) (b2 niO (eV 14) (eV 10)) (eC (.d (.int 1))) [14]) (eN lstO (aN))) (eCall 1 N__law_are_unlike (aC (eV 8) aN))))) <|
sSeq (sIf (bNot (bV (eCall 2 N__law_alike (aC (eCall 2 N_are_some_of (aC (eV 8) (aC (eV 10) aN))) (aC (eAnd (eV 12) (e2 neO (eV 8) (eN tupO (aN)))) aN)))))
(sRet (eC (.d (.bool false))))
(sNop)) <|
sIf (bNot (bV (eCall 2 N__law_alike (aC (eCall 2 N_is_lot (aC (eV 8) (aC (eV 10) aN))) (aC (eAnd (eV 12) (e2 eqO (eN listO (aC (eV 8) aN)) (eN sortO (aC (eV 8) aN)))) aN)))))
(sRet (eC (.d (.bool false))))
(sNop)))) <|
sRet (eC (.d (.bool true)))
@[irreducible] def N_law : Fn := runF 15 b_law
end
end K01
set_option Elab.async false
set_option linter.all false
set_option maxRecDepth 100000
set_option maxHeartbeats 4000000
namespace K01
open PySem PySem.Spec PyProof.Rows L2 DL Hn
section
variable {m : Mm} {Q : Wd → Mm → Prop} {w : Wd} {x : PyData}
def isIntD : PyData → Bool
  | .int _ => true
  | _ => false
theorem int_ok (h : Rd m w x) (hq : ∀ m', Fr [] m m' → Q (.d (.bool (isIntD x))) m') : wpR (N_is_integer [w] m) Q := by
  unfold N_is_integer
  refine w_run ?_
  have e : startE 1 [w] = [some w] := rfl
  rw [e]
  unfold b_is_integer
  have h' : Rd m.openS w x := h.fr fr_open
  simp only [w_seq, w_if, w_set, w_b2, w_bV, w_bAnd, w_bOr, w_bNot, w_e1, w_e2, w_C, w_V, w_augL, w_aug, w_sub, w_eN, w_aC, w_aN, w_sl, w_oS, w_oN, w_ret, w_retN, w_nop, w_drop, w_asg, w_par, w_call, w_eIf, w_eAnd, w_eOr, w_eNot, w_eCh, w_bCh, w_eIsi, w_bk, w_ct, w_for, w_lc, w_dc, w_ran1, w_ran2, w_method, List.getElem?_cons_zero, List.getElem?_cons_succ, List.set_cons_zero, List.set_cons_succ, Option.some.injEq, exists_eq_left', exists_eq_left, Fl.rt.injEq, List.length_cons, List.length_nil, if_true, if_false, Bool.false_eq_true, true_and, and_true, Wd.d.injEq, PyData.bool.injEq, PyData.int.injEq, decide_eq_true_eq, rd_ty h']
  have fin : ∀ b, b = isIntD x → ∀ m2, Cl m.cells.length (Wd.lt m.cells.length (.d (.bool b))) m.openS m2 → Q (.d (.bool b)) m2 := fun b e m2 hc => by subst e; exact hq m2 (fr_open.cl hc)
  cases x with
  | dict _ => cases h with | d h => cases h
  | _ => exact ⟨_, rfl, by first | exact ⟨_, rfl, fin _ rfl⟩ | exact fin _ rfl⟩
theorem lint_ok (h : Rd m w x) (hq : ∀ m', Fr [] m m' → Q (.d (.bool (isIntD x))) m') : wpR (N__law_is_int [w] m) Q := by
  have h2 := int_ok h hq
  unfold N_is_integer b_is_integer at h2
  unfold N__law_is_int b__law_is_int
  exact h2
def withinD (l h : Int) : PyData → Bool
  | .int i => decide (l ≤ i) && decide (i ≤ h)
  | _ => false
theorem within_ok {l hh : Int} (h : Rd m w x) (hq : ∀ m', Fr [] m m' → Q (.d (.bool (withinD l hh x))) m') : wpR (N_is_within [w, .d (.int l), .d (.int hh)] m) Q := by
  unfold N_is_within
  refine w_run ?_
  have e : startE 3 [w, .d (.int l), .d (.int hh)] = [some w, some (.d (.int l)), some (.d (.int hh))] := rfl
  rw [e]
  unfold b_is_within
  have h' : Rd m.openS w x := h.fr fr_open
  simp only [w_seq, w_if, w_set, w_b2, w_bV, w_bAnd, w_bOr, w_bNot, w_e1, w_e2, w_C, w_V, w_augL, w_aug, w_sub, w_eN, w_aC, w_aN, w_sl, w_oS, w_oN, w_ret, w_retN, w_nop, w_drop, w_asg, w_par, w_call, w_eIf, w_eAnd, w_eOr, w_eNot, w_eCh, w_bCh, w_eIsi, w_bk, w_ct, w_for, w_lc, w_dc, w_ran1, w_ran2, w_method, List.getElem?_cons_zero, List.getElem?_cons_succ, List.set_cons_zero, List.set_cons_succ, Option.some.injEq, exists_eq_left', exists_eq_left, Fl.rt.injEq, List.length_cons, List.length_nil, if_true, if_false, Bool.false_eq_true, true_and, and_true, Wd.d.injEq, PyData.bool.injEq, PyData.int.injEq, decide_eq_true_eq]
  refine int_ok h' fun m1 f1 => ?_
  have fin : ∀ b m3, b = withinD l hh x → Fr [] m.openS m3 → ∀ m2, Cl m.cells.length (Wd.lt m.cells.length (.d (.bool b))) m3 m2 → Q (.d (.bool b)) m2 := fun b m3 e f3 m2 hc => by subst e; exact hq m2 ((Fr.of_open f3).cl hc)
  cases x with
  | int i =>
    have hw : w = .d (.int i) := by cases h with | d _ => rfl
    subst hw
    refine ⟨true, rfl, ?_⟩
    simp only [List.getElem?_cons_zero, List.getElem?_cons_succ, List.set_cons_zero, List.set_cons_succ, Option.some.injEq, exists_eq_left', exists_eq_left, Fl.rt.injEq, List.length_cons, List.length_nil, if_true, if_false, Bool.false_eq_true, true_and, and_true, Wd.d.injEq, PyData.bool.injEq, PyData.int.injEq, decide_eq_true_eq, o1_le]
    by_cases h1 : l ≤ i
    · simp only [h1, decide_true, List.getElem?_cons_zero, List.getElem?_cons_succ, List.set_cons_zero, List.set_cons_succ, Option.some.injEq, exists_eq_left', exists_eq_left, Fl.rt.injEq, List.length_cons, List.length_nil, if_true, if_false, Bool.false_eq_true, true_and, and_true, Wd.d.injEq, PyData.bool.injEq, PyData.int.injEq, decide_eq_true_eq]
      refine fun m2 hc => fin _ m1 ?_ f1 m2 hc
      simp [withinD, h1]
    · simp only [h1, decide_false, List.getElem?_cons_zero, List.getElem?_cons_succ, List.set_cons_zero, List.set_cons_succ, Option.some.injEq, exists_eq_left', exists_eq_left, Fl.rt.injEq, List.length_cons, List.length_nil, if_true, if_false, Bool.false_eq_true, true_and, and_true, Wd.d.injEq, PyData.bool.injEq, PyData.int.injEq, decide_eq_true_eq]
      refine fun m2 hc => fin _ m1 ?_ f1 m2 hc
      simp [withinD, h1]
  | _ => exact ⟨false, rfl, fin _ m1 rfl f1⟩
def resv : List Str := ["by", "hears", "move", "no", "open", "sign", "sounds", "state", "to", "witness", "yes"]
def lets : Str := "abcdefghijklmnopqrstuvwxyz"
def isNameS (s : Str) : Bool := decide (1 ≤ s.length) && decide (s.length ≤ 8) && !(resv.any (· == s)) && s.cps.toList.all fun c => decide (c ∈ lets.cps.toList)
def nameD : PyData → Bool
  | .str s => isNameS s
  | _ => false
def strLim : PyData → Bool
  | .str s => decide (s.length ≤ 1000)
  | _ => true
def inLet : Wd → Wd
  | .d (.str z) => .d (.bool (z.cps.toList.all fun c => decide (c ∈ lets.cps.toList)))
  | w => w
def asT : Wd → Bool
  | .d (.bool b) => b
  | _ => false
theorem str_len (s : Str) : s.cps.toList.length = s.length := by
  show s.cps.toList.length = s.cps.size
  simp
theorem resv_any (s : Str) : ((resv.map PyData.str).any fun z => PyData.eqv z (.str s)) = resv.any (· == s) := by
  rw [List.any_map]
  rfl
theorem name_ok (h : Rd m w x) (hs : strLim x = true) (hq : ∀ m', Fr [] m m' → Q (.d (.bool (nameD x))) m') : wpR (N_is_name [w] m) Q := by
  unfold N_is_name
  refine w_run ?_
  have e : startE 2 [w] = [some w, none] := rfl
  rw [e]
  unfold b_is_name
  have h' : Rd m.openS w x := h.fr fr_open
  simp only [w_seq, w_if, w_set, w_b2, w_bV, w_bAnd, w_bOr, w_bNot, w_e1, w_e2, w_C, w_V, w_augL, w_aug, w_sub, w_eN, w_aC, w_aN, w_sl, w_oS, w_oN, w_ret, w_retN, w_nop, w_drop, w_asg, w_par, w_call, w_eIf, w_eAnd, w_eOr, w_eNot, w_eCh, w_bCh, w_eIsi, w_bk, w_ct, w_for, w_lc, w_dc, w_ran1, w_ran2, w_method, List.getElem?_cons_zero, List.getElem?_cons_succ, List.set_cons_zero, List.set_cons_succ, Option.some.injEq, exists_eq_left', exists_eq_left, Fl.rt.injEq, List.length_cons, List.length_nil, if_true, if_false, Bool.false_eq_true, true_and, and_true, Wd.d.injEq, PyData.bool.injEq, PyData.int.injEq, decide_eq_true_eq, rd_ty h']
  have fin : ∀ b m3, b = nameD x → Fr [] m.openS m3 → ∀ m2, Cl m.cells.length (Wd.lt m.cells.length (.d (.bool b))) m3 m2 → Q (.d (.bool b)) m2 := fun b m3 e f3 m2 hc => by subst e; exact hq m2 ((Fr.of_open f3).cl hc)
  cases x with
  | str s =>
    have hw : w = .d (.str s) := by cases h with | d _ => rfl
    subst hw
    have hl : s.length ≤ 1000 := of_decide_eq_true hs
    refine ⟨true, rfl, ?_⟩
    simp only [Bool.not_true, List.getElem?_cons_zero, List.getElem?_cons_succ, List.set_cons_zero, List.set_cons_succ, Option.some.injEq, exists_eq_left', exists_eq_left, Fl.rt.injEq, List.length_cons, List.length_nil, if_true, if_false, Bool.false_eq_true, true_and, and_true, Wd.d.injEq, PyData.bool.injEq, PyData.int.injEq, decide_eq_true_eq, o1_lenS, o1_le, d_MOST_NAME]
    refine ⟨by show s.length ≤ 16777216; omega, ?_⟩
    by_cases h1 : 1 ≤ s.length
    · have h1' : (1 : Int) ≤ (s.length : Int) := by omega
      simp only [h1', List.getElem?_cons_zero, List.getElem?_cons_succ, List.set_cons_zero, List.set_cons_succ, Option.some.injEq, exists_eq_left', exists_eq_left, Fl.rt.injEq, List.length_cons, List.length_nil, if_true, if_false, Bool.false_eq_true, true_and, and_true, Wd.d.injEq, PyData.bool.injEq, PyData.int.injEq, decide_eq_true_eq]
      by_cases h2 : s.length ≤ 8
      · have h2' : (s.length : Int) ≤ 8 := by omega
        simp only [h2', decide_true, Bool.not_true, List.getElem?_cons_zero, List.getElem?_cons_succ, List.set_cons_zero, List.set_cons_succ, Option.some.injEq, exists_eq_left', exists_eq_left, Fl.rt.injEq, List.length_cons, List.length_nil, if_true, if_false, Bool.false_eq_true, true_and, and_true, Wd.d.injEq, PyData.bool.injEq, PyData.int.injEq, decide_eq_true_eq]
        rw [o1_in (ds := resv.map .str) rfl (show seqOf m.openS (.d d_RESERVED) = _ from rfl) (by decide)]
        simp only [List.getElem?_cons_zero, List.getElem?_cons_succ, List.set_cons_zero, List.set_cons_succ, Option.some.injEq, exists_eq_left', exists_eq_left, Fl.rt.injEq, List.length_cons, List.length_nil, if_true, if_false, Bool.false_eq_true, true_and, and_true, Wd.d.injEq, PyData.bool.injEq, PyData.int.injEq, decide_eq_true_eq]
        rw [resv_any]
        cases h3 : resv.any (· == s) with
        | true =>
          simp only [List.getElem?_cons_zero, List.getElem?_cons_succ, List.set_cons_zero, List.set_cons_succ, Option.some.injEq, exists_eq_left', exists_eq_left, Fl.rt.injEq, List.length_cons, List.length_nil, if_true, if_false, Bool.false_eq_true, true_and, and_true, Wd.d.injEq, PyData.bool.injEq, PyData.int.injEq, decide_eq_true_eq]
          exact fin _ _ (by simp [nameD, isNameS, h3]) .refl
        | false =>
          simp only [List.getElem?_cons_zero, List.getElem?_cons_succ, List.set_cons_zero, List.set_cons_succ, Option.some.injEq, exists_eq_left', exists_eq_left, Fl.rt.injEq, List.length_cons, List.length_nil, if_true, if_false, Bool.false_eq_true, true_and, and_true, Wd.d.injEq, PyData.bool.injEq, PyData.int.injEq, decide_eq_true_eq]
          refine w_iter ?_
          simp only [w_V, List.getElem?_cons_zero, List.getElem?_cons_succ, List.set_cons_zero, List.set_cons_succ, Option.some.injEq, exists_eq_left', exists_eq_left, Fl.rt.injEq, List.length_cons, List.length_nil, if_true, if_false, Bool.false_eq_true, true_and, and_true, Wd.d.injEq, PyData.bool.injEq, PyData.int.injEq, decide_eq_true_eq]
          refine .inr ⟨s, rfl, ?_⟩
          refine w_lcm (fun _ => true) inLet (by rw [List.length_map, str_len]; show _ ≤ 16777216; omega) (fun _ _ => gdOk_nil) (fun w hw m' f => ?_) fun m' f => ?_
          · obtain ⟨c, hc, rfl⟩ := List.mem_map.mp hw
            refine ⟨_, rfl, ?_⟩
            simp only [wpR_ok, w_e2, w_V, w_C, forget, List.getElem?_cons_zero, List.getElem?_cons_succ, List.set_cons_zero, List.set_cons_succ, Option.some.injEq, exists_eq_left', exists_eq_left, Fl.rt.injEq, List.length_cons, List.length_nil, if_true, if_false, Bool.false_eq_true, true_and, and_true, Wd.d.injEq, PyData.bool.injEq, PyData.int.injEq, decide_eq_true_eq, forall_const]
            refine ⟨f, ?_⟩
            refine (o1_inS (c := c) (z := lets)).mpr ⟨f, ?_⟩
            simp [inLet]
          · have hmap : (List.map inLet (List.filter (fun _ => true) (List.map (fun c => Wd.d (.str ⟨#[c]⟩)) s.cps.toList))) = (s.cps.toList.map fun c => decide (c ∈ lets.cps.toList)).map fun b => Wd.d (.bool b) := by
              rw [List.filter_eq_self.mpr (by simp), List.map_map, List.map_map]
              refine List.map_congr_left fun c _ => ?_
              simp [inLet]
            rw [hmap, o1_all has_push]
            refine fin _ _ ?_ (f.trans fr_push)
            simp [nameD, isNameS, h1, h2, h3, List.all_map]
      · have h2' : ¬ (s.length : Int) ≤ 8 := by omega
        simp only [h2', decide_false, Bool.not_false, List.getElem?_cons_zero, List.getElem?_cons_succ, List.set_cons_zero, List.set_cons_succ, Option.some.injEq, exists_eq_left', exists_eq_left, Fl.rt.injEq, List.length_cons, List.length_nil, if_true, if_false, Bool.false_eq_true, true_and, and_true, Wd.d.injEq, PyData.bool.injEq, PyData.int.injEq, decide_eq_true_eq]
        exact fin _ _ (by simp [nameD, isNameS, h2]) .refl
    · have h1' : ¬ (1 : Int) ≤ (s.length : Int) := by omega
      simp only [h1', Bool.not_false, List.getElem?_cons_zero, List.getElem?_cons_succ, List.set_cons_zero, List.set_cons_succ, Option.some.injEq, exists_eq_left', exists_eq_left, Fl.rt.injEq, List.length_cons, List.length_nil, if_true, if_false, Bool.false_eq_true, true_and, and_true, Wd.d.injEq, PyData.bool.injEq, PyData.int.injEq, decide_eq_true_eq]
      exact fin _ _ (by simp [nameD, isNameS, h1]) .refl
  | dict _ => cases h with | d h => cases h
  | _ =>
    refine ⟨false, rfl, ?_⟩
    simp only [Bool.not_false, List.getElem?_cons_zero, List.getElem?_cons_succ, List.set_cons_zero, List.set_cons_succ, Option.some.injEq, exists_eq_left', exists_eq_left, Fl.rt.injEq, List.length_cons, List.length_nil, if_true, if_false, Bool.false_eq_true, true_and, and_true, Wd.d.injEq, PyData.bool.injEq, PyData.int.injEq, decide_eq_true_eq]
    exact fin _ _ rfl .refl
theorem lname_ok (h : Rd m w x) (hs : strLim x = true) (hq : ∀ m', Fr [] m m' → Q (.d (.bool (nameD x))) m') : wpR (N__law_is_name [w] m) Q := by
  unfold N__law_is_name
  refine w_run ?_
  have e : startE 3 [w] = [some w, none, none] := rfl
  rw [e]
  unfold b__law_is_name
  have h' : Rd m.openS w x := h.fr fr_open
  simp only [w_seq, w_set, w_eN, w_aC, w_aN, w_C, o1_tup]
  refine ⟨by decide, ?_⟩
  have emk : mkTup [Wd.d (.str "by"), .d (.str "hears"), .d (.str "move"), .d (.str "no"), .d (.str "open"), .d (.str "sign"), .d (.str "sounds"), .d (.str "state"), .d (.str "to"), .d (.str "witness"), .d (.str "yes")] = .d (.tuple (resv.map .str)) := rfl
  rw [emk]
  simp only [w_seq, w_if, w_set, w_b2, w_bV, w_bAnd, w_bOr, w_bNot, w_e1, w_e2, w_C, w_V, w_augL, w_aug, w_sub, w_eN, w_aC, w_aN, w_sl, w_oS, w_oN, w_ret, w_retN, w_nop, w_drop, w_asg, w_par, w_call, w_eIf, w_eAnd, w_eOr, w_eNot, w_eCh, w_bCh, w_eIsi, w_bk, w_ct, w_for, w_lc, w_dc, w_ran1, w_ran2, w_method, List.getElem?_cons_zero, List.getElem?_cons_succ, List.set_cons_zero, List.set_cons_succ, Option.some.injEq, exists_eq_left', exists_eq_left, Fl.rt.injEq, List.length_cons, List.length_nil, if_true, if_false, Bool.false_eq_true, true_and, and_true, Wd.d.injEq, PyData.bool.injEq, PyData.int.injEq, decide_eq_true_eq, rd_ty h']
  have fin : ∀ b m3, b = nameD x → Fr [] m.openS m3 → ∀ m2, Cl m.cells.length (Wd.lt m.cells.length (.d (.bool b))) m3 m2 → Q (.d (.bool b)) m2 := fun b m3 e f3 m2 hc => by subst e; exact hq m2 ((Fr.of_open f3).cl hc)
  cases x with
  | str s =>
    have hw : w = .d (.str s) := by cases h with | d _ => rfl
    subst hw
    have hl : s.length ≤ 1000 := of_decide_eq_true hs
    refine ⟨true, rfl, ?_⟩
    simp only [Bool.not_true, List.getElem?_cons_zero, List.getElem?_cons_succ, List.set_cons_zero, List.set_cons_succ, Option.some.injEq, exists_eq_left', exists_eq_left, Fl.rt.injEq, List.length_cons, List.length_nil, if_true, if_false, Bool.false_eq_true, true_and, and_true, Wd.d.injEq, PyData.bool.injEq, PyData.int.injEq, decide_eq_true_eq, o1_lenS, o1_le]
    refine ⟨by show s.length ≤ 16777216; omega, ?_⟩
    by_cases h1 : 1 ≤ s.length
    · have h1' : (1 : Int) ≤ (s.length : Int) := by omega
      simp only [h1', List.getElem?_cons_zero, List.getElem?_cons_succ, List.set_cons_zero, List.set_cons_succ, Option.some.injEq, exists_eq_left', exists_eq_left, Fl.rt.injEq, List.length_cons, List.length_nil, if_true, if_false, Bool.false_eq_true, true_and, and_true, Wd.d.injEq, PyData.bool.injEq, PyData.int.injEq, decide_eq_true_eq]
      by_cases h2 : s.length ≤ 8
      · have h2' : (s.length : Int) ≤ 8 := by omega
        simp only [h2', decide_true, Bool.not_true, List.getElem?_cons_zero, List.getElem?_cons_succ, List.set_cons_zero, List.set_cons_succ, Option.some.injEq, exists_eq_left', exists_eq_left, Fl.rt.injEq, List.length_cons, List.length_nil, if_true, if_false, Bool.false_eq_true, true_and, and_true, Wd.d.injEq, PyData.bool.injEq, PyData.int.injEq, decide_eq_true_eq]
        rw [o1_in (ds := resv.map .str) rfl (show seqOf m.openS (.d (.tuple (resv.map .str))) = _ from rfl) (by decide)]
        simp only [List.getElem?_cons_zero, List.getElem?_cons_succ, List.set_cons_zero, List.set_cons_succ, Option.some.injEq, exists_eq_left', exists_eq_left, Fl.rt.injEq, List.length_cons, List.length_nil, if_true, if_false, Bool.false_eq_true, true_and, and_true, Wd.d.injEq, PyData.bool.injEq, PyData.int.injEq, decide_eq_true_eq]
        rw [resv_any]
        cases h3 : resv.any (· == s) with
        | true =>
          simp only [List.getElem?_cons_zero, List.getElem?_cons_succ, List.set_cons_zero, List.set_cons_succ, Option.some.injEq, exists_eq_left', exists_eq_left, Fl.rt.injEq, List.length_cons, List.length_nil, if_true, if_false, Bool.false_eq_true, true_and, and_true, Wd.d.injEq, PyData.bool.injEq, PyData.int.injEq, decide_eq_true_eq]
          exact fin _ _ (by simp [nameD, isNameS, h3]) .refl
        | false =>
          simp only [List.getElem?_cons_zero, List.getElem?_cons_succ, List.set_cons_zero, List.set_cons_succ, Option.some.injEq, exists_eq_left', exists_eq_left, Fl.rt.injEq, List.length_cons, List.length_nil, if_true, if_false, Bool.false_eq_true, true_and, and_true, Wd.d.injEq, PyData.bool.injEq, PyData.int.injEq, decide_eq_true_eq]
          refine w_iter ?_
          simp only [w_V, List.getElem?_cons_zero, List.getElem?_cons_succ, List.set_cons_zero, List.set_cons_succ, Option.some.injEq, exists_eq_left', exists_eq_left, Fl.rt.injEq, List.length_cons, List.length_nil, if_true, if_false, Bool.false_eq_true, true_and, and_true, Wd.d.injEq, PyData.bool.injEq, PyData.int.injEq, decide_eq_true_eq]
          refine .inr ⟨s, rfl, ?_⟩
          refine w_lcm (fun w => !asT (inLet w)) (fun _ => .d (.int 1)) (by rw [List.length_map, str_len]; show _ ≤ 16777216; omega) (fun _ _ => gdOk_nil) (fun w hw m' f => ?_) fun m' f => ?_
          · obtain ⟨c, hc, rfl⟩ := List.mem_map.mp hw
            refine ⟨_, rfl, ?_⟩
            simp only [w_b2, w_V, w_C, forget, List.getElem?_cons_zero, List.getElem?_cons_succ, List.set_cons_zero, List.set_cons_succ, Option.some.injEq, exists_eq_left', exists_eq_left, Fl.rt.injEq, List.length_cons, List.length_nil, if_true, if_false, Bool.false_eq_true, true_and, and_true, Wd.d.injEq, PyData.bool.injEq, PyData.int.injEq, decide_eq_true_eq]
            refine (o1_niS (c := c) (z := lets)).mpr ?_
            refine ⟨_, rfl, f, ?_, fun _ => ?_⟩
            · simp [inLet, asT]
            · first | exact f | exact ⟨f, rfl⟩
          · simp only [w_eN, w_aN, o1_lst, List.getElem?_cons_zero, List.getElem?_cons_succ, List.set_cons_zero, List.set_cons_succ, Option.some.injEq, exists_eq_left', exists_eq_left, Fl.rt.injEq, List.length_cons, List.length_nil, if_true, if_false, Bool.false_eq_true, true_and, and_true, Wd.d.injEq, PyData.bool.injEq, PyData.int.injEq, decide_eq_true_eq]
            refine ⟨by decide, ?_⟩
            rw [o1_eqOnes has_push.push has_push]
            refine fin _ _ ?_ ((f.trans fr_push).trans fr_push)
            simp [nameD, isNameS, h1, h2, h3, List.filter_map, Function.comp_def, inLet, asT]
            rw [filt_not (fun c => decide (c ∈ lets.cps)) s.cps.toList]
            simp
      · have h2' : ¬ (s.length : Int) ≤ 8 := by omega
        simp only [h2', decide_false, Bool.not_false, List.getElem?_cons_zero, List.getElem?_cons_succ, List.set_cons_zero, List.set_cons_succ, Option.some.injEq, exists_eq_left', exists_eq_left, Fl.rt.injEq, List.length_cons, List.length_nil, if_true, if_false, Bool.false_eq_true, true_and, and_true, Wd.d.injEq, PyData.bool.injEq, PyData.int.injEq, decide_eq_true_eq]
        exact fin _ _ (by simp [nameD, isNameS, h2]) .refl
    · have h1' : ¬ (1 : Int) ≤ (s.length : Int) := by omega
      simp only [h1', Bool.not_false, List.getElem?_cons_zero, List.getElem?_cons_succ, List.set_cons_zero, List.set_cons_succ, Option.some.injEq, exists_eq_left', exists_eq_left, Fl.rt.injEq, List.length_cons, List.length_nil, if_true, if_false, Bool.false_eq_true, true_and, and_true, Wd.d.injEq, PyData.bool.injEq, PyData.int.injEq, decide_eq_true_eq]
      exact fin _ _ (by simp [nameD, isNameS, h1]) .refl
  | dict _ => cases h with | d h => cases h
  | _ =>
    refine ⟨false, rfl, ?_⟩
    simp only [Bool.not_false, List.getElem?_cons_zero, List.getElem?_cons_succ, List.set_cons_zero, List.set_cons_succ, Option.some.injEq, exists_eq_left', exists_eq_left, Fl.rt.injEq, List.length_cons, List.length_nil, if_true, if_false, Bool.false_eq_true, true_and, and_true, Wd.d.injEq, PyData.bool.injEq, PyData.int.injEq, decide_eq_true_eq]
    exact fin _ _ rfl .refl
theorem unlike_ok {ss : List Str} (ht : tupOf w = some (ss.map fun s => .d (.str s))) (hl : ss.length ≤ 1000) (hq : ∀ m', Fr [] m m' → Q (.d (.bool (decide ss.Nodup))) m') : wpR (N__law_are_unlike [w] m) Q := by
  unfold N__law_are_unlike
  refine w_run ?_
  have e : startE 2 [w] = [some w, none] := rfl
  rw [e]
  unfold b__law_are_unlike
  have hs : seqOf m.openS w = some (ss.map fun s => .d (.str s)) := tupOf_seq ht
  simp only [w_ret, w_e2, w_lc, w_ran1, w_eN, w_aC, w_aN, w_V, List.getElem?_cons_zero, List.getElem?_cons_succ, List.set_cons_zero, List.set_cons_succ, Option.some.injEq, exists_eq_left', exists_eq_left, Fl.rt.injEq, List.length_cons, List.length_nil, if_true, if_false, Bool.false_eq_true, true_and, and_true, Wd.d.injEq, PyData.bool.injEq, PyData.int.injEq, decide_eq_true_eq, o1_lens hs, List.length_map]
  refine ⟨_, rfl, by unfold range62; rw [decide_eq_true_eq]; omega, ?_⟩
  rw [Int.toNat_natCast]
  refine w_lcm (fun w => match w with | .d (.int k) => (ss.take k.toNat).any fun z => decide (some z = ss[k.toNat]?) | _ => false) (fun _ => .d (.int 1)) (by simp [DL.intsFrom]; show _ ≤ 16777216; omega) (fun _ _ => gdOk_nil) (fun w' hw m' f => ?_) fun m' f => ?_
  · obtain ⟨k, hk, rfl⟩ := List.mem_map.mp hw
    have hk' := List.mem_range.mp hk
    refine ⟨_, rfl, ?_⟩
    have hs' : seqOf m' w = some (ss.map fun s => .d (.str s)) := tupOf_seq ht
    have hat : atI (ss.map fun s => Wd.d (.str s)) (0 + (k : Int)) = some (.d (.str ss[k])) := by
      rw [Int.zero_add, at_nat (by simpa using hk')]
      simp [List.getElem?_eq_getElem hk']
    simp only [w_b2, w_e2, w_sl, w_oN, w_oS, w_V, w_C, forget, List.getElem?_cons_zero, List.getElem?_cons_succ, List.set_cons_zero, List.set_cons_succ, Option.some.injEq, exists_eq_left', exists_eq_left, Fl.rt.injEq, List.length_cons, List.length_nil, if_true, if_false, Bool.false_eq_true, true_and, and_true, Wd.d.injEq, PyData.bool.injEq, PyData.int.injEq, decide_eq_true_eq, ix_of hs' hat, o1_slT ht]
    rw [Int.zero_add, cut_to]
    have emk : mkTup ((ss.map fun s => Wd.d (.str s)).take k) = .d (.tuple ((ss.take k).map .str)) := by
      rw [← List.map_take, show ((ss.take k).map fun s => Wd.d (.str s)) = ((ss.take k).map PyData.str).map Wd.d by rw [List.map_map]; rfl, mkTup_map]
    rw [emk, o1_in (ds := (ss.take k).map .str) rfl rfl (by rw [List.all_map, List.all_eq_true]; exact fun _ _ => rfl)]
    refine ⟨_, rfl, f, ?_, fun _ => ?_⟩
    · rw [List.any_map, Int.toNat_natCast, List.getElem?_eq_getElem hk']
      congr 1
      funext z
      show (z == ss[k]) = decide (some z = some ss[k])
      rw [Bool.eq_iff_iff, beq_iff_eq, decide_eq_true_eq, Option.some.injEq]
    · first | exact f | exact ⟨f, rfl⟩
  · simp only [w_eN, w_aN, o1_lst, List.getElem?_cons_zero, List.getElem?_cons_succ, List.set_cons_zero, List.set_cons_succ, Option.some.injEq, exists_eq_left', exists_eq_left, Fl.rt.injEq, List.length_cons, List.length_nil, if_true, if_false, Bool.false_eq_true, true_and, and_true, Wd.d.injEq, PyData.bool.injEq, PyData.int.injEq, decide_eq_true_eq]
    refine ⟨by decide, ?_⟩
    rw [o1_eqOnes has_push.push has_push]
    refine fun m2 hc => ?_
    have hb : (List.filter (fun w => match w with | .d (.int k) => (ss.take k.toNat).any fun z => decide (some z = ss[k.toNat]?) | _ => false) (intsFrom 0 ss.length)).isEmpty = decide ss.Nodup := by
      rw [← unlike_nodup ss, ← filt_not]
      unfold DL.intsFrom
      rw [List.filter_map, List.isEmpty_map]
      congr 1
      refine List.filter_congr fun k _ => ?_
      show (ss.take ((0 : Int) + (k : Int)).toNat).any _ = _
      rw [Int.zero_add, Int.toNat_natCast, Bool.not_not]
    rw [hb]
    exact hq m2 ((Fr.of_open ((f.trans fr_push).trans fr_push)).cl hc)
def strOf : PyData → Str
  | .str s => s
  | _ => ""
def areNamesD (l h : Int) : PyData → Bool
  | .tuple ds => decide (l ≤ (ds.length : Int)) && decide ((ds.length : Int) ≤ h) && ds.all nameD && decide (ds.map strOf).Nodup
  | _ => false
theorem names_str : ∀ {ds : List PyData}, ds.all nameD = true → ds = (ds.map strOf).map .str
  | [], _ => rfl
  | x :: r, h => by
    rw [List.all_cons, Bool.and_eq_true] at h
    rw [List.map_cons, List.map_cons, ← names_str h.2]
    cases x with
    | str s => rfl
    | _ => cases h.1
def nmW (m : Mm) : Wd → Wd := fun w => w
theorem seqOf_len {ws : List Wd} {ds : List PyData} (h : Rds m ws ds) : ws.length = ds.length := h.length
def limD : PyData → Bool
  | .tuple ds => decide (ds.length ≤ 1000) && ds.all strLim
  | .list ds => decide (ds.length ≤ 1000) && ds.all strLim
  | x => strLim x
theorem are_names_ok {l hh : Int} (h : Rd m w x) (hl : limD x = true) (hq : ∀ m', Fr [] m m' → Q (.d (.bool (areNamesD l hh x))) m') : wpR (N_are_names [w, .d (.int l), .d (.int hh)] m) Q := by
  unfold N_are_names
  refine w_run ?_
  have e : startE 4 [w, .d (.int l), .d (.int hh)] = [some w, some (.d (.int l)), some (.d (.int hh)), none] := rfl
  rw [e]
  unfold b_are_names
  have h' : Rd m.openS w x := h.fr fr_open
  have fin : ∀ b m3, b = areNamesD l hh x → Fr [] m.openS m3 → ∀ m2, Cl m.cells.length (Wd.lt m.cells.length (.d (.bool b))) m3 m2 → Q (.d (.bool b)) m2 := fun b m3 e f3 m2 hc => by subst e; exact hq m2 ((Fr.of_open f3).cl hc)
  simp only [w_seq, w_if, w_set, w_b2, w_bV, w_bAnd, w_bOr, w_bNot, w_e1, w_e2, w_C, w_V, w_augL, w_aug, w_sub, w_eN, w_aC, w_aN, w_sl, w_oS, w_oN, w_ret, w_retN, w_nop, w_drop, w_asg, w_par, w_call, w_eIf, w_eAnd, w_eOr, w_eNot, w_eCh, w_bCh, w_eIsi, w_bk, w_ct, w_for, w_lc, w_dc, w_ran1, w_ran2, w_method, List.getElem?_cons_zero, List.getElem?_cons_succ, List.set_cons_zero, List.set_cons_succ, Option.some.injEq, exists_eq_left', exists_eq_left, Fl.rt.injEq, List.length_cons, List.length_nil, if_true, if_false, Bool.false_eq_true, true_and, and_true, Wd.d.injEq, PyData.bool.injEq, PyData.int.injEq, decide_eq_true_eq, rd_ty h']
  cases x with
  | tuple ds =>
    refine ⟨true, rfl, ?_⟩
    obtain ⟨ws, ht, hr⟩ := rd_tupOf h'
    have hl' : ds.length ≤ 1000 ∧ ds.all strLim = true := by
      have := hl
      unfold limD at this
      rw [Bool.and_eq_true, decide_eq_true_eq] at this
      exact this
    have hs : seqOf m.openS w = some ws := tupOf_seq ht
    have hwl := hr.length
    simp only [Bool.not_true, List.getElem?_cons_zero, List.getElem?_cons_succ, List.set_cons_zero, List.set_cons_succ, Option.some.injEq, exists_eq_left', exists_eq_left, Fl.rt.injEq, List.length_cons, List.length_nil, if_true, if_false, Bool.false_eq_true, true_and, and_true, Wd.d.injEq, PyData.bool.injEq, PyData.int.injEq, decide_eq_true_eq, o1_lens hs, o1_le, hwl]
    by_cases h1 : l ≤ (ds.length : Int)
    · simp only [h1, List.getElem?_cons_zero, List.getElem?_cons_succ, List.set_cons_zero, List.set_cons_succ, Option.some.injEq, exists_eq_left', exists_eq_left, Fl.rt.injEq, List.length_cons, List.length_nil, if_true, if_false, Bool.false_eq_true, true_and, and_true, Wd.d.injEq, PyData.bool.injEq, PyData.int.injEq, decide_eq_true_eq]
      by_cases h2 : (ds.length : Int) ≤ hh
      · simp only [h2, decide_true, Bool.not_true, List.getElem?_cons_zero, List.getElem?_cons_succ, List.set_cons_zero, List.set_cons_succ, Option.some.injEq, exists_eq_left', exists_eq_left, Fl.rt.injEq, List.length_cons, List.length_nil, if_true, if_false, Bool.false_eq_true, true_and, and_true, Wd.d.injEq, PyData.bool.injEq, PyData.int.injEq, decide_eq_true_eq]
        refine w_iter ?_
        simp only [w_V, List.getElem?_cons_zero, List.getElem?_cons_succ, List.set_cons_zero, List.set_cons_succ, Option.some.injEq, exists_eq_left', exists_eq_left, Fl.rt.injEq, List.length_cons, List.length_nil, if_true, if_false, Bool.false_eq_true, true_and, and_true, Wd.d.injEq, PyData.bool.injEq, PyData.int.injEq, decide_eq_true_eq]
        refine .inl ⟨ws, hs, fun gd hgd => ?_⟩
        refine w_lcd hr (fun _ => true) (fun x => .bool (nameD x)) (by show _ ≤ 16777216; omega) hgd (fun w' y hy hm m' f => ?_) fun m' f => ?_
        · refine ⟨_, rfl, ?_⟩
          simp only [wpR_ok, w_call, w_aC, w_aN, w_V, forget, List.getElem?_cons_zero, List.getElem?_cons_succ, List.set_cons_zero, List.set_cons_succ, Option.some.injEq, exists_eq_left', exists_eq_left, Fl.rt.injEq, List.length_cons, List.length_nil, if_true, if_false, Bool.false_eq_true, true_and, and_true, Wd.d.injEq, PyData.bool.injEq, PyData.int.injEq, decide_eq_true_eq, forall_const]
          refine ⟨f, ?_⟩
          exact name_ok (hy.fr f) (mem_all hl'.2 hm) fun m3 f3 => ⟨f.trans f3, rfl⟩
        · have hmap : ((ds.filter fun _ => true).map fun x => PyData.bool (nameD x)).map Wd.d = (ds.map nameD).map fun b => Wd.d (.bool b) := by
            rw [List.filter_eq_self.mpr (by simp), List.map_map, List.map_map]; rfl
          rw [hmap, o1_all has_push]
          have hall : (ds.map nameD).all id = ds.all nameD := by rw [List.all_map]; rfl
          rw [hall]
          cases hn : ds.all nameD with
          | false =>
            refine ⟨false, rfl, ?_⟩
            simp only [Bool.not_false, List.getElem?_cons_zero, List.getElem?_cons_succ, List.set_cons_zero, List.set_cons_succ, Option.some.injEq, exists_eq_left', exists_eq_left, Fl.rt.injEq, List.length_cons, List.length_nil, if_true, if_false, Bool.false_eq_true, true_and, and_true, Wd.d.injEq, PyData.bool.injEq, PyData.int.injEq, decide_eq_true_eq]
            exact fin _ _ (by simp [areNamesD, hn]) (f.trans fr_push)
          | true =>
            refine ⟨true, rfl, ?_⟩
            simp only [Bool.not_true, List.getElem?_cons_zero, List.getElem?_cons_succ, List.set_cons_zero, List.set_cons_succ, Option.some.injEq, exists_eq_left', exists_eq_left, Fl.rt.injEq, List.length_cons, List.length_nil, if_true, if_false, Bool.false_eq_true, true_and, and_true, Wd.d.injEq, PyData.bool.injEq, PyData.int.injEq, decide_eq_true_eq]
            have hss := names_str hn
            have hws : ws = (ds.map strOf).map fun s => Wd.d (.str s) := by
              have := rds_flat hr (by rw [hss, List.all_map, List.all_eq_true]; exact fun _ _ => rfl)
              rw [this]
              conv => lhs; rw [hss]
              rw [List.map_map]; rfl
            refine w_iter ?_
            simp only [w_V, List.getElem?_cons_zero, List.getElem?_cons_succ, List.set_cons_zero, List.set_cons_succ, Option.some.injEq, exists_eq_left', exists_eq_left, Fl.rt.injEq, List.length_cons, List.length_nil, if_true, if_false, Bool.false_eq_true, true_and, and_true, Wd.d.injEq, PyData.bool.injEq, PyData.int.injEq, decide_eq_true_eq]
            refine .inl ⟨ws, tupOf_seq ht, fun gd2 hgd2 => ?_⟩
            rw [hws]
            refine w_dcS (v := .d (.bool true)) (by rw [List.length_map]; show _ < 16777216; omega) hgd2 (fun s hsm m3 f3 => ?_) fun m3 f3 => ?_
            · refine ⟨_, rfl, ?_⟩
              simp only [w_V, w_C, forget, List.getElem?_cons_zero, List.getElem?_cons_succ, List.set_cons_zero, List.set_cons_succ, Option.some.injEq, exists_eq_left', exists_eq_left, Fl.rt.injEq, List.length_cons, List.length_nil, if_true, if_false, Bool.false_eq_true, true_and, and_true, Wd.d.injEq, PyData.bool.injEq, PyData.int.injEq, decide_eq_true_eq]
              first | exact f3 | exact ⟨f3, f3⟩ | exact ⟨f3, f3, trivial⟩
            · rw [o1_lenD has_push]
              simp only [List.getElem?_cons_zero, List.getElem?_cons_succ, List.set_cons_zero, List.set_cons_succ, Option.some.injEq, exists_eq_left', exists_eq_left, Fl.rt.injEq, List.length_cons, List.length_nil, if_true, if_false, Bool.false_eq_true, true_and, and_true, Wd.d.injEq, PyData.bool.injEq, PyData.int.injEq, decide_eq_true_eq, o1_lens (tupOf_seq ht), o1_eqi, List.length_map, hwl]
              refine fin _ _ ?_ (((f.trans fr_push).trans f3).trans fr_push)
              have hdd := dd_len (ds.map strOf)
              rw [List.length_map] at hdd
              have h3 : decide (((dd (ds.map strOf)).length : Int) = (ds.length : Int)) = decide (ds.map strOf).Nodup := by
                rw [decide_eq_decide, ← hdd]; omega
              rw [h3]
              simp [areNamesD, h1, h2, hn]
      · simp only [h2, decide_false, Bool.not_false, List.getElem?_cons_zero, List.getElem?_cons_succ, List.set_cons_zero, List.set_cons_succ, Option.some.injEq, exists_eq_left', exists_eq_left, Fl.rt.injEq, List.length_cons, List.length_nil, if_true, if_false, Bool.false_eq_true, true_and, and_true, Wd.d.injEq, PyData.bool.injEq, PyData.int.injEq, decide_eq_true_eq]
        exact fin _ _ (by simp [areNamesD, h2]) .refl
    · simp only [h1, Bool.not_false, List.getElem?_cons_zero, List.getElem?_cons_succ, List.set_cons_zero, List.set_cons_succ, Option.some.injEq, exists_eq_left', exists_eq_left, Fl.rt.injEq, List.length_cons, List.length_nil, if_true, if_false, Bool.false_eq_true, true_and, and_true, Wd.d.injEq, PyData.bool.injEq, PyData.int.injEq, decide_eq_true_eq]
      exact fin _ _ (by simp [areNamesD, h1]) .refl
  | dict _ => cases h with | d h => cases h
  | _ =>
    refine ⟨false, rfl, ?_⟩
    simp only [Bool.not_false, List.getElem?_cons_zero, List.getElem?_cons_succ, List.set_cons_zero, List.set_cons_succ, Option.some.injEq, exists_eq_left', exists_eq_left, Fl.rt.injEq, List.length_cons, List.length_nil, if_true, if_false, Bool.false_eq_true, true_and, and_true, Wd.d.injEq, PyData.bool.injEq, PyData.int.injEq, decide_eq_true_eq]
    exact fin _ _ rfl .refl
/-! the second part: names, and rows of these -/
def D6 : List PyData := [.str "ab", .str "q", .str "a", .str "zz", .none, .str "x"]
def N4 : List Str := ["ab", "q", "a", "zz"]
theorem d6_ok : ∀ {ds : List PyData}, (∀ x ∈ ds, x ∈ D6) → PyData.canLayAll0 ds = true ∧ PyData.depthAll ds = 0 ∧ okDs ds = true ∧ ds.all flatD = true ∧ ds.all strLim = true
  | [], _ => ⟨rfl, rfl, rfl, rfl, rfl⟩
  | x :: r, h => by
    obtain ⟨h1, h2, h3, h4, h5⟩ := d6_ok (ds := r) fun y hy => h y (by simp [hy])
    have hx : ∀ x ∈ D6, PyData.canLay0 x = true ∧ PyData.depth x = 0 ∧ okD x = true ∧ flatD x = true ∧ strLim x = true := by decide +kernel
    obtain ⟨g1, g2, g3, g4, g5⟩ := hx x (h x (by simp))
    refine ⟨?_, ?_, ?_, ?_, ?_⟩
    · show (PyData.canLay0 x && PyData.canLayAll0 r) = true; rw [g1, h1]; rfl
    · show max (PyData.depth x) (PyData.depthAll r) = 0; rw [g2, h2]; rfl
    · show (okD x && okDs r) = true; rw [g3, h3]; rfl
    · rw [List.all_cons, g4, h4]; rfl
    · rw [List.all_cons, g5, h5]; rfl
theorem d6_shaped {ds : List PyData} (h : ∀ x ∈ ds, x ∈ D6) : SeqAt.shaped (.tuple ds) = true ∧ SeqAt.shaped (.list ds) = true := by
  obtain ⟨h1, h2, _⟩ := d6_ok h
  constructor <;> (unfold SeqAt.shaped; rw [Bool.and_eq_true]; exact ⟨h1, by rw [decide_eq_true_eq]; show PyData.depthAll ds + 1 ≤ 64; rw [h2]; omega⟩)
/-- a thing of the second part -/
inductive Th (m : Mm) : Wd → PyData → Prop
  | tup {ds : List PyData} : (∀ x ∈ ds, x ∈ D6) → ds.length ≤ 1000 → Th m (.d (.tuple ds)) (.tuple ds)
  | lst {n : Nat} {ds : List PyData} : (∀ x ∈ ds, x ∈ D6) → ds.length ≤ 1000 → Has m n (.lst (ds.map .d)) → Th m (.ref n) (.list ds)
  | non : Th m (.d .none) .none
theorem Th.fr {m' : Mm} (f : Fr [] m m') (h : Th m w x) : Th m' w x := by
  cases h with
  | tup h1 h2 => exact .tup h1 h2
  | lst h1 h2 h3 => exact .lst h1 h2 (f.has h3)
  | non => exact .non
theorem Th.rd (h : Th m w x) : Rd m w x := by
  cases h with
  | tup h1 h2 => exact .d (d6_ok h1).2.2.1
  | lst h1 h2 h3 => exact .ref h3 (rds_d (d6_ok h1).2.2.1)
  | non => exact .d rfl
theorem Th.lim (h : Th m w x) : limD x = true := by
  cases h with
  | @tup ds h1 h2 => show (decide (ds.length ≤ 1000) && ds.all strLim) = true; rw [(d6_ok h1).2.2.2.2, decide_eq_true h2]; rfl
  | @lst n ds h1 h2 h3 => show (decide (ds.length ≤ 1000) && ds.all strLim) = true; rw [(d6_ok h1).2.2.2.2, decide_eq_true h2]; rfl
  | non => rfl
theorem Th.toP (h : Th m w x) : toP m 64 w = some x ∧ SeqAt.shaped x = true := by
  cases h with
  | tup h1 h2 => exact ⟨rfl, (d6_shaped h1).1⟩
  | lst h1 h2 h3 => exact ⟨toP_lst h3, (d6_shaped h1).2⟩
  | non => exact ⟨rfl, by decide +kernel⟩
structure Nms (ns : List Str) : Prop where
  sub : ∀ s ∈ ns, s ∈ N4
  nd : ns.Nodup
  pos : 1 ≤ ns.length
  len : ns.length ≤ 4
def inN (ns : List Str) (x : PyData) : Bool := (ns.map PyData.str).any fun z => PyData.eqv z x
def areSomeD (ns : List Str) : PyData → Bool
  | .tuple ds => areNamesD 1 ns.length (.tuple ds) && ds.all (inN ns)
  | _ => false
theorem nms_flat (ns : List Str) : (ns.map PyData.str).all flatD = true := by rw [List.all_map, List.all_eq_true]; exact fun _ _ => rfl
theorem some_of_ok {ns : List Str} (h : Th m w x) (hq : ∀ m', Fr [] m m' → Q (.d (.bool (areSomeD ns x))) m') : wpR (N_are_some_of [w, .d (.tuple (ns.map .str))] m) Q := by
  unfold N_are_some_of
  refine w_run ?_
  have e : startE 3 [w, .d (.tuple (ns.map .str))] = [some w, some (.d (.tuple (ns.map .str))), none] := rfl
  rw [e]
  unfold b_are_some_of
  have fin : ∀ b m3, b = areSomeD ns x → Fr [] m.openS m3 → ∀ m2, Cl m.cells.length (Wd.lt m.cells.length (.d (.bool b))) m3 m2 → Q (.d (.bool b)) m2 := fun b m3 e f3 m2 hc => by subst e; exact hq m2 ((Fr.of_open f3).cl hc)
  have h' : Th m.openS w x := h.fr fr_open
  simp only [w_ret, w_eAnd, w_call, w_aC, w_aN, w_V, w_C, w_eN, List.getElem?_cons_zero, List.getElem?_cons_succ, List.set_cons_zero, List.set_cons_succ, Option.some.injEq, exists_eq_left', exists_eq_left, Fl.rt.injEq, List.length_cons, List.length_nil, if_true, if_false, Bool.false_eq_true, true_and, and_true, Wd.d.injEq, PyData.bool.injEq, PyData.int.injEq, decide_eq_true_eq, o1_lenT, List.length_map]
  refine are_names_ok h'.rd h'.lim fun m1 f1 => ?_
  cases hn : areNamesD 1 ns.length x with
  | false =>
    refine ⟨false, rfl, ?_⟩
    simp only [List.getElem?_cons_zero, List.getElem?_cons_succ, List.set_cons_zero, List.set_cons_succ, Option.some.injEq, exists_eq_left', exists_eq_left, Fl.rt.injEq, List.length_cons, List.length_nil, if_true, if_false, Bool.false_eq_true, true_and, and_true, Wd.d.injEq, PyData.bool.injEq, PyData.int.injEq, decide_eq_true_eq]
    refine fin _ _ ?_ f1
    cases x <;> simp [areSomeD, hn]
  | true =>
    refine ⟨true, rfl, ?_⟩
    simp only [List.getElem?_cons_zero, List.getElem?_cons_succ, List.set_cons_zero, List.set_cons_succ, Option.some.injEq, exists_eq_left', exists_eq_left, Fl.rt.injEq, List.length_cons, List.length_nil, if_true, if_false, Bool.false_eq_true, true_and, and_true, Wd.d.injEq, PyData.bool.injEq, PyData.int.injEq, decide_eq_true_eq, w_lc]
    cases h with
    | non => cases hn
    | lst _ _ _ => cases hn
    | @tup ds h1 h2 =>
      refine w_iter ?_
      simp only [w_V, List.getElem?_cons_zero, List.getElem?_cons_succ, List.set_cons_zero, List.set_cons_succ, Option.some.injEq, exists_eq_left', exists_eq_left, Fl.rt.injEq, List.length_cons, List.length_nil, if_true, if_false, Bool.false_eq_true, true_and, and_true, Wd.d.injEq, PyData.bool.injEq, PyData.int.injEq, decide_eq_true_eq]
      refine .inl ⟨_, rfl, fun gd hgd => ?_⟩
      refine w_lcd (rds_d (d6_ok h1).2.2.1) (fun _ => true) (fun x => .bool (inN ns x)) (by show _ ≤ 16777216; omega) hgd (fun w' y hy hm m' f => ?_) fun m' f => ?_
      · have hyw : w' = .d y := by
          have hf := mem_all (d6_ok h1).2.2.2.1 hm
          cases hy with
          | d _ => rfl
          | tup _ => cases hf
          | ref _ _ => cases hf
          | rol _ => cases hf
        subst hyw
        refine ⟨_, rfl, ?_⟩
        simp only [wpR_ok, w_e2, w_V, forget, List.getElem?_cons_zero, List.getElem?_cons_succ, List.set_cons_zero, List.set_cons_succ, Option.some.injEq, exists_eq_left', exists_eq_left, Fl.rt.injEq, List.length_cons, List.length_nil, if_true, if_false, Bool.false_eq_true, true_and, and_true, Wd.d.injEq, PyData.bool.injEq, PyData.int.injEq, decide_eq_true_eq, forall_const]
        refine ⟨f, ?_⟩
        rw [o1_in (ds := ns.map .str) (mem_all (d6_ok h1).2.2.2.1 hm) rfl (nms_flat ns)]
        first | exact f | exact ⟨f, rfl⟩
      · have hmap : ((ds.filter fun _ => true).map fun x => PyData.bool (inN ns x)).map Wd.d = (ds.map (inN ns)).map fun b => Wd.d (.bool b) := by
          rw [List.filter_eq_self.mpr (by simp), List.map_map, List.map_map]; rfl
        rw [hmap, o1_all has_push]
        refine fin _ _ ?_ ((f1.trans f).trans fr_push)
        rw [List.all_map]
        show ds.all (inN ns) = (areNamesD 1 ns.length (.tuple ds) && ds.all (inN ns))
        rw [hn]; rfl
def srtD (ds : List PyData) : List PyData := ((ds.map strOf).mergeSort leS).map .str
def sortedB (ds : List PyData) : Bool := PyData.eqv (.list ds) (.list (srtD ds))
def isLotD (ns : List Str) : PyData → Bool
  | .tuple ds => ds.isEmpty || (areSomeD ns (.tuple ds) && sortedB ds)
  | _ => false
theorem in_str {ns : List Str} {x : PyData} (h : inN ns x = true) : ∃ s ∈ ns, x = .str s := by
  unfold inN at h
  rw [List.any_map, List.any_eq_true] at h
  obtain ⟨z, hz, e⟩ := h
  refine ⟨z, hz, ?_⟩
  cases x with
  | str s =>
    have e' : (z == s) = true := e
    rw [eq_of_beq e']
  | _ => cases e
theorem srt_mem {ns : List Str} {ds : List PyData} (h : ds.all (inN ns) = true) : ∀ x ∈ srtD ds, x ∈ ds := by
  intro x hx
  obtain ⟨s, hs, rfl⟩ := List.mem_map.mp hx
  have h2 := (List.mergeSort_perm (ds.map strOf) leS).mem_iff.mp hs
  obtain ⟨y, hy, rfl⟩ := List.mem_map.mp h2
  obtain ⟨s, _, rfl⟩ := in_str (mem_all h hy)
  exact hy
theorem srt_eq {ns : List Str} {ds : List PyData} (h : ds.all (inN ns) = true) : ds = (ds.map strOf).map .str := by
  rw [List.map_map]
  conv => lhs; rw [← List.map_id ds]
  refine List.map_congr_left fun x hx => ?_
  obtain ⟨s, _, rfl⟩ := in_str (mem_all h hx)
  rfl
/-- list(thing) == sorted(thing) -/
theorem sort_eq_ok {env : DL.Env} {ns : List Str} {ds : List PyData} {i : Nat} (he : env[i]? = some (some (.d (.tuple ds)))) (h1 : ∀ x ∈ ds, x ∈ D6) (h : ds.all (inN ns) = true) (hq : ∀ m', Fr [] m m' → Q (.d (.bool (sortedB ds))) m') :
    wpR (e2 eqO (eN listO (aC (eV i) aN)) (eN sortO (aC (eV i) aN)) env m) Q := by
  simp only [w_e2, w_eN, w_aC, w_aN, w_V, he, List.getElem?_cons_zero, List.getElem?_cons_succ, List.set_cons_zero, List.set_cons_succ, Option.some.injEq, exists_eq_left', exists_eq_left, Fl.rt.injEq, List.length_cons, List.length_nil, if_true, if_false, Bool.false_eq_true, true_and, and_true, Wd.d.injEq, PyData.bool.injEq, PyData.int.injEq, decide_eq_true_eq, o1_list (show seqOf m (.d (.tuple ds)) = some (ds.map .d) from rfl)]
  have hs : ∀ m, seqOf m (.d (.tuple ds)) = some ((ds.map strOf).map fun s => Wd.d (.str s)) := fun m => by
    show some (ds.map Wd.d) = _
    conv => lhs; rw [srt_eq h]
    rw [List.map_map]; rfl
  rw [o1_sortS (hs _)]
  have hsrt : ((ds.map strOf).mergeSort leS).map (fun x => Wd.d (.str x)) = (srtD ds).map .d := by
    unfold srtD; rw [List.map_map]; rfl
  rw [hsrt, o1_eqW (x := .list ds) (y := .list (srtD ds)) (toP_lst has_push.push) (toP_lst has_push) (by
    rw [Bool.or_eq_true, Bool.and_eq_true]
    exact .inr ⟨(d6_shaped h1).2, (d6_shaped fun x hx => h1 x (srt_mem h x hx)).2⟩)]
  exact hq _ (fr_push.trans fr_push)
def nilT : PyData → Bool
  | .tuple ds => ds.isEmpty
  | _ => false
theorem eqv_tnil (x : PyData) : PyData.eqv x (.tuple []) = nilT x := by
  cases x with
  | tuple ds => cases ds <;> rfl
  | _ => rfl
theorem areSome_all {ns : List Str} {ds : List PyData} (h : areSomeD ns (.tuple ds) = true) : ds.all (inN ns) = true := by
  have h' : (areNamesD 1 ns.length (.tuple ds) && ds.all (inN ns)) = true := h
  rw [Bool.and_eq_true] at h'
  exact h'.2
theorem lot_ok {ns : List Str} (h : Th m w x) (hq : ∀ m', Fr [] m m' → Q (.d (.bool (isLotD ns x))) m') : wpR (N_is_lot [w, .d (.tuple (ns.map .str))] m) Q := by
  unfold N_is_lot
  refine w_run ?_
  have e : startE 2 [w, .d (.tuple (ns.map .str))] = [some w, some (.d (.tuple (ns.map .str)))] := rfl
  rw [e]
  unfold b_is_lot
  have fin : ∀ b m3, b = isLotD ns x → Fr [] m.openS m3 → ∀ m2, Cl m.cells.length (Wd.lt m.cells.length (.d (.bool b))) m3 m2 → Q (.d (.bool b)) m2 := fun b m3 e f3 m2 hc => by subst e; exact hq m2 ((Fr.of_open f3).cl hc)
  have h' : Th m.openS w x := h.fr fr_open
  obtain ⟨ht, hsh⟩ := h'.toP
  rw [w_ret, w_eOr, w_e2, w_V]
  simp only [w_eN, w_aN, o1_tup, List.getElem?_cons_zero, List.getElem?_cons_succ, List.set_cons_zero, List.set_cons_succ, Option.some.injEq, exists_eq_left', exists_eq_left, Fl.rt.injEq, List.length_cons, List.length_nil, if_true, if_false, Bool.false_eq_true, true_and, and_true, Wd.d.injEq, PyData.bool.injEq, PyData.int.injEq, decide_eq_true_eq]
  refine ⟨by decide, ?_⟩
  rw [show mkTup [] = .d (.tuple []) from rfl, o1_eqW ht (show toP _ 64 (.d (.tuple [])) = some (.tuple []) from rfl) (by rw [hsh]; simp; right; decide +kernel), eqv_tnil]
  have rest : ∀ (hx : nilT x = false), wpR (eAnd (eCall 2 N_are_some_of (aC (eV 0) (aC (eV 1) aN))) (e2 eqO (eN listO (aC (eV 0) aN)) (eN sortO (aC (eV 0) aN))) [some w, some (.d (.tuple (ns.map .str)))] m.openS) fun w_1 m1 => ∀ m2, Cl m.cells.length (w_1.lt m.cells.length) m1 m2 → Q w_1 m2 := by
    intro hx
    rw [w_eAnd, w_call]
    simp only [w_aC, w_aN, w_V, List.getElem?_cons_zero, List.getElem?_cons_succ, List.set_cons_zero, List.set_cons_succ, Option.some.injEq, exists_eq_left', exists_eq_left, Fl.rt.injEq, List.length_cons, List.length_nil, if_true, if_false, Bool.false_eq_true, true_and, and_true, Wd.d.injEq, PyData.bool.injEq, PyData.int.injEq, decide_eq_true_eq]
    refine some_of_ok h' fun m1 f1 => ?_
    cases hn : areSomeD ns x with
    | false =>
      refine ⟨false, rfl, ?_⟩
      simp only [List.getElem?_cons_zero, List.getElem?_cons_succ, List.set_cons_zero, List.set_cons_succ, Option.some.injEq, exists_eq_left', exists_eq_left, Fl.rt.injEq, List.length_cons, List.length_nil, if_true, if_false, Bool.false_eq_true, true_and, and_true, Wd.d.injEq, PyData.bool.injEq, PyData.int.injEq, decide_eq_true_eq]
      refine fin _ _ ?_ f1
      cases x with
      | tuple ds => have hx' : ds.isEmpty = false := hx; simp [isLotD, hn, hx']
      | _ => rfl
    | true =>
      refine ⟨true, rfl, ?_⟩
      simp only [List.getElem?_cons_zero, List.getElem?_cons_succ, List.set_cons_zero, List.set_cons_succ, Option.some.injEq, exists_eq_left', exists_eq_left, Fl.rt.injEq, List.length_cons, List.length_nil, if_true, if_false, Bool.false_eq_true, true_and, and_true, Wd.d.injEq, PyData.bool.injEq, PyData.int.injEq, decide_eq_true_eq]
      cases h with
      | non => cases hn
      | lst _ _ _ => cases hn
      | @tup ds h1 h2 =>
        refine sort_eq_ok (ns := ns) rfl h1 (areSome_all hn) fun m2 f2 => ?_
        refine fin _ _ ?_ (f1.trans f2)
        have hx' : ds.isEmpty = false := hx
        simp [isLotD, hn, hx']
  cases hx : nilT x with
  | false =>
    refine ⟨false, rfl, ?_⟩
    simp only [List.getElem?_cons_zero, List.getElem?_cons_succ, List.set_cons_zero, List.set_cons_succ, Option.some.injEq, exists_eq_left', exists_eq_left, Fl.rt.injEq, List.length_cons, List.length_nil, if_true, if_false, Bool.false_eq_true, true_and, and_true, Wd.d.injEq, PyData.bool.injEq, PyData.int.injEq, decide_eq_true_eq]
    exact rest hx
  | true =>
    refine ⟨true, rfl, ?_⟩
    simp only [List.getElem?_cons_zero, List.getElem?_cons_succ, List.set_cons_zero, List.set_cons_succ, Option.some.injEq, exists_eq_left', exists_eq_left, Fl.rt.injEq, List.length_cons, List.length_nil, if_true, if_false, Bool.false_eq_true, true_and, and_true, Wd.d.injEq, PyData.bool.injEq, PyData.int.injEq, decide_eq_true_eq]
    refine fin _ _ ?_ .refl
    cases x with
    | tuple ds => have hx' : ds.isEmpty = true := hx; simp [isLotD, hx']
    | _ => cases hx
/-! the law's own looks -/
def due1D : PyData → Bool
  | .tuple ds => ds.all nameD
  | _ => false
theorem set14 {env : DL.Env} {v : Wd} (hl : env.length = 15) : ((forget [14] env).set 14 (some v))[14]? = some (some v) := by
  show ((env.set 14 none).set 14 (some v))[14]? = _
  rw [List.getElem?_set_self (by simp [hl])]
theorem set14n {env : DL.Env} {v : Wd} {k : Nat} {u : Option Wd} (h : env[k]? = some u) (hk : k ≠ 14) : ((forget [14] env).set 14 (some v))[k]? = some u := by
  show ((env.set 14 none).set 14 (some v))[k]? = _
  rw [List.getElem?_set_ne (Ne.symm hk), List.getElem?_set_ne (Ne.symm hk), h]
theorem due1_ok {env : DL.Env} (he : env[8]? = some (some w)) (hlen : env.length = 15) (h : Rd m w x) (hl : limD x = true) (hq : ∀ m', Fr [] m m' → Q (.d (.bool (due1D x))) m') :
    wpR (eAnd (eIsi ["tuple"] (eV 8)) (e2 eqO (eLc (iVal (eV 8)) (.name 14) (bNot (bV (eCall 1 N__law_is_name (aC (eV 14) aN)))) (eC (.d (.int 1))) [14]) (eN lstO (aN))) env m) Q := by
  rw [w_eAnd, w_eIsi, w_V]
  simp only [he, List.getElem?_cons_zero, List.getElem?_cons_succ, List.set_cons_zero, List.set_cons_succ, Option.some.injEq, exists_eq_left', exists_eq_left, Fl.rt.injEq, List.length_cons, List.length_nil, if_true, if_false, Bool.false_eq_true, true_and, and_true, Wd.d.injEq, PyData.bool.injEq, PyData.int.injEq, decide_eq_true_eq, rd_ty h]
  cases x with
  | tuple ds =>
    refine ⟨true, rfl, ?_⟩
    obtain ⟨ws, ht, hr⟩ := rd_tupOf h
    have hl' : ds.length ≤ 1000 ∧ ds.all strLim = true := by
      have := hl
      unfold limD at this
      rw [Bool.and_eq_true, decide_eq_true_eq] at this
      exact this
    simp only [List.getElem?_cons_zero, List.getElem?_cons_succ, List.set_cons_zero, List.set_cons_succ, Option.some.injEq, exists_eq_left', exists_eq_left, Fl.rt.injEq, List.length_cons, List.length_nil, if_true, if_false, Bool.false_eq_true, true_and, and_true, Wd.d.injEq, PyData.bool.injEq, PyData.int.injEq, decide_eq_true_eq, w_e2, w_lc]
    refine w_iter ?_
    simp only [w_V, he, List.getElem?_cons_zero, List.getElem?_cons_succ, List.set_cons_zero, List.set_cons_succ, Option.some.injEq, exists_eq_left', exists_eq_left, Fl.rt.injEq, List.length_cons, List.length_nil, if_true, if_false, Bool.false_eq_true, true_and, and_true, Wd.d.injEq, PyData.bool.injEq, PyData.int.injEq, decide_eq_true_eq]
    refine .inl ⟨ws, tupOf_seq ht, fun gd hgd => ?_⟩
    refine w_lcd hr (fun x => !nameD x) (fun _ => .int 1) (by show _ ≤ 16777216; omega) hgd (fun w' y hy hm m' f => ?_) fun m' f => ?_
    · refine ⟨_, rfl, ?_⟩
      simp only [w_bNot, w_bV, w_call, w_aC, w_aN, w_V, set14 hlen, List.getElem?_cons_zero, List.getElem?_cons_succ, List.set_cons_zero, List.set_cons_succ, Option.some.injEq, exists_eq_left', exists_eq_left, Fl.rt.injEq, List.length_cons, List.length_nil, if_true, if_false, Bool.false_eq_true, true_and, and_true, Wd.d.injEq, PyData.bool.injEq, PyData.int.injEq, decide_eq_true_eq]
      refine lname_ok (hy.fr f) (mem_all hl'.2 hm) fun m3 f3 => ⟨_, rfl, f.trans f3, rfl, fun _ => ?_⟩
      exact w_C.mpr ⟨f.trans f3, rfl⟩
    · have hmap : ((ds.filter fun x => !nameD x).map fun _ => PyData.int 1).map Wd.d = (ds.filter fun x => !nameD x).map fun _ => Wd.d (.int 1) := by rw [List.map_map]; rfl
      rw [hmap]
      simp only [w_eN, w_aN, o1_lst, List.getElem?_cons_zero, List.getElem?_cons_succ, List.set_cons_zero, List.set_cons_succ, Option.some.injEq, exists_eq_left', exists_eq_left, Fl.rt.injEq, List.length_cons, List.length_nil, if_true, if_false, Bool.false_eq_true, true_and, and_true, Wd.d.injEq, PyData.bool.injEq, PyData.int.injEq, decide_eq_true_eq]
      refine ⟨by decide, ?_⟩
      rw [o1_eqOnes has_push.push has_push, filt_not]
      exact hq _ ((f.trans fr_push).trans fr_push)
  | dict _ => cases h with | d h => cases h
  | _ =>
    refine ⟨false, rfl, ?_⟩
    simp only [List.getElem?_cons_zero, List.getElem?_cons_succ, List.set_cons_zero, List.set_cons_succ, Option.some.injEq, exists_eq_left', exists_eq_left, Fl.rt.injEq, List.length_cons, List.length_nil, if_true, if_false, Bool.false_eq_true, true_and, and_true, Wd.d.injEq, PyData.bool.injEq, PyData.int.injEq, decide_eq_true_eq]
    exact hq m .refl
def dueD (l h : Int) : PyData → Bool
  | .tuple ds => ds.all nameD && (decide (ds.map strOf).Nodup && (decide (l ≤ (ds.length : Int)) && decide ((ds.length : Int) ≤ h)))
  | _ => false
theorem due_eq (l h : Int) (x : PyData) : areNamesD l h x = dueD l h x := by
  cases x with
  | tuple ds =>
    show (decide (l ≤ (ds.length : Int)) && decide ((ds.length : Int) ≤ h) && ds.all nameD && decide (ds.map strOf).Nodup) = (ds.all nameD && (decide (ds.map strOf).Nodup && (decide (l ≤ (ds.length : Int)) && decide ((ds.length : Int) ≤ h))))
    cases decide (l ≤ (ds.length : Int)) <;> cases decide ((ds.length : Int) ≤ h) <;> cases ds.all nameD <;> cases decide (ds.map strOf).Nodup <;> rfl
  | _ => rfl
theorem due2_ok {env : DL.Env} {l hh : Int} (he : env[8]? = some (some w)) (h5 : env[5]? = some (some (.d (.int l)))) (h6 : env[6]? = some (some (.d (.int hh)))) (h9 : env[9]? = some (some (.d (.bool (due1D x))))) (h : Rd m w x) (hl : limD x = true) (hq : ∀ m', Fr [] m m' → Q (.d (.bool (dueD l hh x))) m') :
    wpR (eAnd (eV 9) (eAnd (eCall 1 N__law_are_unlike (aC (eV 8) aN)) (eCh leO leO (eV 5) (eN lenO (aC (eV 8) aN)) (eV 6))) env m) Q := by
  rw [w_eAnd, w_V]
  simp only [h9, List.getElem?_cons_zero, List.getElem?_cons_succ, List.set_cons_zero, List.set_cons_succ, Option.some.injEq, exists_eq_left', exists_eq_left, Fl.rt.injEq, List.length_cons, List.length_nil, if_true, if_false, Bool.false_eq_true, true_and, and_true, Wd.d.injEq, PyData.bool.injEq, PyData.int.injEq, decide_eq_true_eq]
  cases hd : due1D x with
  | false =>
    refine ⟨false, rfl, ?_⟩
    simp only [List.getElem?_cons_zero, List.getElem?_cons_succ, List.set_cons_zero, List.set_cons_succ, Option.some.injEq, exists_eq_left', exists_eq_left, Fl.rt.injEq, List.length_cons, List.length_nil, if_true, if_false, Bool.false_eq_true, true_and, and_true, Wd.d.injEq, PyData.bool.injEq, PyData.int.injEq, decide_eq_true_eq]
    have : dueD l hh x = false := by
      cases x with
      | tuple ds => have hd' : ds.all nameD = false := hd; show (ds.all nameD && _) = false; rw [hd']; rfl
      | _ => rfl
    rw [← this]
    exact hq m .refl
  | true =>
    refine ⟨true, rfl, ?_⟩
    cases x with
    | tuple ds =>
      have hd' : ds.all nameD = true := hd
      obtain ⟨ws, ht, hr⟩ := rd_tupOf h
      have hss := names_str hd'
      have hws : ws = (ds.map strOf).map fun s => Wd.d (.str s) := by
        have := rds_flat hr (by rw [hss, List.all_map, List.all_eq_true]; exact fun _ _ => rfl)
        rw [this]
        conv => lhs; rw [hss]
        rw [List.map_map]; rfl
      have hl' : ds.length ≤ 1000 ∧ ds.all strLim = true := by
        have := hl
        unfold limD at this
        rw [Bool.and_eq_true, decide_eq_true_eq] at this
        exact this
      have hwl := hr.length
      rw [if_pos rfl, w_eAnd, w_call]
      simp only [w_aC, w_aN, w_V, he, List.getElem?_cons_zero, List.getElem?_cons_succ, List.set_cons_zero, List.set_cons_succ, Option.some.injEq, exists_eq_left', exists_eq_left, Fl.rt.injEq, List.length_cons, List.length_nil, if_true, if_false, Bool.false_eq_true, true_and, and_true, Wd.d.injEq, PyData.bool.injEq, PyData.int.injEq, decide_eq_true_eq]
      refine unlike_ok (ss := ds.map strOf) (by rw [ht, hws]) (by rw [List.length_map]; omega) fun m1 f1 => ?_
      refine ⟨_, rfl, ?_⟩
      by_cases hnd : (ds.map strOf).Nodup
      · simp only [hnd, decide_true, List.getElem?_cons_zero, List.getElem?_cons_succ, List.set_cons_zero, List.set_cons_succ, Option.some.injEq, exists_eq_left', exists_eq_left, Fl.rt.injEq, List.length_cons, List.length_nil, if_true, if_false, Bool.false_eq_true, true_and, and_true, Wd.d.injEq, PyData.bool.injEq, PyData.int.injEq, decide_eq_true_eq, w_eCh, w_V, w_eN, w_aC, w_aN, h5, h6, he, o1_lens (tupOf_seq ht), o1_le, hwl]
        by_cases h1 : l ≤ (ds.length : Int)
        · simp only [h1, decide_true, List.getElem?_cons_zero, List.getElem?_cons_succ, List.set_cons_zero, List.set_cons_succ, Option.some.injEq, exists_eq_left', exists_eq_left, Fl.rt.injEq, List.length_cons, List.length_nil, if_true, if_false, Bool.false_eq_true, true_and, and_true, Wd.d.injEq, PyData.bool.injEq, PyData.int.injEq, decide_eq_true_eq]
          have : dueD l hh (.tuple ds) = decide ((ds.length : Int) ≤ hh) := by simp [dueD, hd', hnd, h1]
          rw [← this]; exact hq _ f1
        · simp only [h1, decide_false, List.getElem?_cons_zero, List.getElem?_cons_succ, List.set_cons_zero, List.set_cons_succ, Option.some.injEq, exists_eq_left', exists_eq_left, Fl.rt.injEq, List.length_cons, List.length_nil, if_true, if_false, Bool.false_eq_true, true_and, and_true, Wd.d.injEq, PyData.bool.injEq, PyData.int.injEq, decide_eq_true_eq]
          have : dueD l hh (.tuple ds) = false := by simp [dueD, h1]
          rw [← this]; exact hq _ f1
      · simp only [hnd, decide_false, List.getElem?_cons_zero, List.getElem?_cons_succ, List.set_cons_zero, List.set_cons_succ, Option.some.injEq, exists_eq_left', exists_eq_left, Fl.rt.injEq, List.length_cons, List.length_nil, if_true, if_false, Bool.false_eq_true, true_and, and_true, Wd.d.injEq, PyData.bool.injEq, PyData.int.injEq, decide_eq_true_eq]
        have : dueD l hh (.tuple ds) = false := by simp [dueD, hnd]
        rw [← this]; exact hq _ f1
    | _ => cases hd
def unlikeD (ns : List Str) : PyData → Bool
  | .tuple ds => ds.all (inN ns) && decide (ds.map strOf).Nodup
  | _ => false
theorem unl_tail {ns : List Str} {ds : List PyData} (hin : ds.all (inN ns) = true) (h2 : ds.length ≤ 1000) (hq : ∀ m', Fr [] m m' → Q (.d (.bool (unlikeD ns (.tuple ds)))) m') : wpR (N__law_are_unlike [.d (.tuple ds)] m) Q := by
  have htu : tupOf (Wd.d (.tuple ds)) = some ((ds.map strOf).map fun s => Wd.d (.str s)) := by
    have h0 : ds.map Wd.d = (ds.map strOf).map fun s => Wd.d (.str s) := by
      conv => lhs; rw [srt_eq hin]
      rw [List.map_map]; rfl
    exact congrArg some h0
  have hun : unlikeD ns (.tuple ds) = decide (ds.map strOf).Nodup := by simp [unlikeD, hin]
  rw [hun] at hq
  exact unlike_ok htu (by rw [List.length_map]; exact h2) hq
theorem unl_ok {env : DL.Env} {ns : List Str} (he : env[8]? = some (some w)) (h10 : env[10]? = some (some (.d (.tuple (ns.map .str))))) (hlen : env.length = 15) (h : Th m w x) (hq : ∀ m', Fr [] m m' → Q (.d (.bool (unlikeD ns x))) m') :
    wpR (eAnd (eIsi ["tuple"] (eV 8)) (eAnd (e2 eqO (eLc (iVal (eV 8)) (.name 14) (b2 niO (eV 14) (eV 10)) (eC (.d (.int 1))) [14]) (eN lstO (aN))) (eCall 1 N__law_are_unlike (aC (eV 8) aN))) env m) Q := by
  rw [w_eAnd, w_eIsi, w_V]
  simp only [he, List.getElem?_cons_zero, List.getElem?_cons_succ, List.set_cons_zero, List.set_cons_succ, Option.some.injEq, exists_eq_left', exists_eq_left, Fl.rt.injEq, List.length_cons, List.length_nil, if_true, if_false, Bool.false_eq_true, true_and, and_true, Wd.d.injEq, PyData.bool.injEq, PyData.int.injEq, decide_eq_true_eq, rd_ty h.rd]
  cases h with
  | non =>
    refine ⟨false, rfl, ?_⟩
    simp only [List.getElem?_cons_zero, List.getElem?_cons_succ, List.set_cons_zero, List.set_cons_succ, Option.some.injEq, exists_eq_left', exists_eq_left, Fl.rt.injEq, List.length_cons, List.length_nil, if_true, if_false, Bool.false_eq_true, true_and, and_true, Wd.d.injEq, PyData.bool.injEq, PyData.int.injEq, decide_eq_true_eq]
    exact hq m .refl
  | lst _ _ _ =>
    refine ⟨false, rfl, ?_⟩
    simp only [List.getElem?_cons_zero, List.getElem?_cons_succ, List.set_cons_zero, List.set_cons_succ, Option.some.injEq, exists_eq_left', exists_eq_left, Fl.rt.injEq, List.length_cons, List.length_nil, if_true, if_false, Bool.false_eq_true, true_and, and_true, Wd.d.injEq, PyData.bool.injEq, PyData.int.injEq, decide_eq_true_eq]
    exact hq m .refl
  | @tup ds h1 h2 =>
    refine ⟨true, rfl, ?_⟩
    rw [if_pos rfl, w_eAnd]
    simp only [w_e2, w_lc]
    refine w_iter ?_
    simp only [w_V, he, List.getElem?_cons_zero, List.getElem?_cons_succ, List.set_cons_zero, List.set_cons_succ, Option.some.injEq, exists_eq_left', exists_eq_left, Fl.rt.injEq, List.length_cons, List.length_nil, if_true, if_false, Bool.false_eq_true, true_and, and_true, Wd.d.injEq, PyData.bool.injEq, PyData.int.injEq, decide_eq_true_eq]
    refine .inl ⟨_, rfl, fun gd hgd => ?_⟩
    refine w_lcd (rds_d (d6_ok h1).2.2.1) (fun x => !inN ns x) (fun _ => .int 1) (by show _ ≤ 16777216; omega) hgd (fun w' y hy hm m' f => ?_) fun m' f => ?_
    · have hyw : w' = .d y := by
        have hf := mem_all (d6_ok h1).2.2.2.1 hm
        cases hy with
        | d _ => rfl
        | tup _ => cases hf
        | ref _ _ => cases hf
        | rol _ => cases hf
      subst hyw
      refine ⟨_, rfl, ?_⟩
      simp only [w_b2, w_V, w_C, set14 hlen, set14n h10 (by decide), List.getElem?_cons_zero, List.getElem?_cons_succ, List.set_cons_zero, List.set_cons_succ, Option.some.injEq, exists_eq_left', exists_eq_left, Fl.rt.injEq, List.length_cons, List.length_nil, if_true, if_false, Bool.false_eq_true, true_and, and_true, Wd.d.injEq, PyData.bool.injEq, PyData.int.injEq, decide_eq_true_eq]
      rw [o1_ni (ds := ns.map .str) (mem_all (d6_ok h1).2.2.2.1 hm) rfl (nms_flat ns)]
      exact ⟨_, rfl, f, rfl, fun _ => by first | exact f | exact ⟨f, rfl⟩⟩
    · have hmap : ((ds.filter fun x => !inN ns x).map fun _ => PyData.int 1).map Wd.d = (ds.filter fun x => !inN ns x).map fun _ => Wd.d (.int 1) := by rw [List.map_map]; rfl
      rw [hmap]
      simp only [w_eN, w_aN, o1_lst, List.getElem?_cons_zero, List.getElem?_cons_succ, List.set_cons_zero, List.set_cons_succ, Option.some.injEq, exists_eq_left', exists_eq_left, Fl.rt.injEq, List.length_cons, List.length_nil, if_true, if_false, Bool.false_eq_true, true_and, and_true, Wd.d.injEq, PyData.bool.injEq, PyData.int.injEq, decide_eq_true_eq]
      refine ⟨by decide, ?_⟩
      rw [o1_eqOnes has_push.push has_push, filt_not]
      have fAll := (f.trans (fr_push (c := .lst ((ds.filter fun x => !inN ns x).map fun _ => Wd.d (.int 1))))).trans (fr_push (c := .lst []))
      cases hin : ds.all (inN ns) with
      | false =>
        refine ⟨false, rfl, ?_⟩
        simp only [List.getElem?_cons_zero, List.getElem?_cons_succ, List.set_cons_zero, List.set_cons_succ, Option.some.injEq, exists_eq_left', exists_eq_left, Fl.rt.injEq, List.length_cons, List.length_nil, if_true, if_false, Bool.false_eq_true, true_and, and_true, Wd.d.injEq, PyData.bool.injEq, PyData.int.injEq, decide_eq_true_eq]
        have : unlikeD ns (.tuple ds) = false := by simp [unlikeD, hin]
        rw [← this]; exact hq _ fAll
      | true =>
        refine ⟨true, rfl, ?_⟩
        rw [if_pos rfl, w_call]
        simp only [w_aC, w_aN, w_V, he, List.getElem?_cons_zero, List.getElem?_cons_succ, List.set_cons_zero, List.set_cons_succ, Option.some.injEq, exists_eq_left', exists_eq_left, Fl.rt.injEq, List.length_cons, List.length_nil, if_true, if_false, Bool.false_eq_true, true_and, and_true, Wd.d.injEq, PyData.bool.injEq, PyData.int.injEq, decide_eq_true_eq]
        exact unl_tail hin h2 fun m1 f1 => hq m1 (fAll.trans f1)
theorem n4_name : ∀ s ∈ N4, isNameS s = true := by
  have h : N4.all isNameS = true := by kernel_rfl
  exact fun s hs => List.all_eq_true.mp h s hs
theorem some_eq {ns : List Str} (hn : Nms ns) (ds : List PyData) : areSomeD ns (.tuple ds) = (unlikeD ns (.tuple ds) && !ds.isEmpty) := by
  show ((decide ((1 : Int) ≤ (ds.length : Int)) && decide ((ds.length : Int) ≤ (ns.length : Int)) && ds.all nameD && decide (ds.map strOf).Nodup) && ds.all (inN ns)) = ((ds.all (inN ns) && decide (ds.map strOf).Nodup) && !ds.isEmpty)
  cases hin : ds.all (inN ns) with
  | false => simp
  | true =>
    by_cases hnd : (ds.map strOf).Nodup
    · have h1 : ds.all nameD = true := by
        rw [List.all_eq_true]
        intro x hx
        obtain ⟨s, hs, rfl⟩ := in_str (mem_all hin hx)
        exact n4_name s (hn.sub s hs)
      have h2 : ds.length ≤ ns.length := by
        have := nodup_le hnd (l' := ns) fun s hs => by
          obtain ⟨x, hx, rfl⟩ := List.mem_map.mp hs
          obtain ⟨s, hsn, rfl⟩ := in_str (mem_all hin hx)
          exact hsn
        rwa [List.length_map] at this
      have h3 : decide ((1 : Int) ≤ (ds.length : Int)) = !ds.isEmpty := by
        cases ds with
        | nil => rfl
        | cons x r => show decide _ = true; rw [decide_eq_true_eq]; simp; omega
      have h4 : decide ((ds.length : Int) ≤ (ns.length : Int)) = true := by rw [decide_eq_true_eq]; omega
      rw [h1, h3, h4]
      simp [hnd]
    · simp [hnd]
theorem lot_eq {ns : List Str} (hn : Nms ns) (ds : List PyData) : isLotD ns (.tuple ds) = (unlikeD ns (.tuple ds) && sortedB ds) := by
  show (ds.isEmpty || (areSomeD ns (.tuple ds) && sortedB ds)) = _
  rw [some_eq hn]
  cases ds with
  | nil =>
    have h1 : sortedB [] = true := by
      unfold sortedB srtD
      rw [List.map_nil, List.mergeSort_nil]; rfl
    rw [h1]; rfl
  | cons x r =>
    show (false || _) = _
    rw [Bool.false_or]
    show ((unlikeD ns (.tuple (x :: r)) && !false) && sortedB (x :: r)) = _
    rw [Bool.not_false, Bool.and_true]
end
end K01
set_option Elab.async false
set_option linter.all false
set_option maxRecDepth 100000
set_option maxHeartbeats 4000000
namespace K01
open PySem PySem.Spec PyProof.Rows L2 DL Hn
section
variable {m m' : Mm} {Q : Wd → Mm → Prop} {w : Wd} {x : PyData} {i r : Nat}
def W25a : List PyData := [.str "a", .str "zz", .str "by", .str "hears", .str "move", .str "no", .str "open", .str "sign", .str "sounds", .str "state", .str "to", .str "witness", .str "yes", .str "abcdefgh"]
def W25b : List PyData := [.str "abcdefghi", .str "", .str "A", .str "a1", .str "a ", .str "nos", .str "a-b", .none, .int 7, .bool true, .tuple [.str "a"]]
inductive Wx (m : Mm) : Wd → PyData → Prop
  | d {x : PyData} : x ∈ W25a ++ W25b → Wx m (.d x) x
  | l {n : Nat} : Has m n (.lst [.d (.str "a")]) → Wx m (.ref n) (.list [.str "a"])
theorem w25_ok : ∀ x ∈ W25a ++ W25b, okD x = true ∧ strLim x = true := by
  have h : (W25a ++ W25b).all (fun x => okD x && strLim x) = true := by kernel_rfl
  intro x hx
  have := List.all_eq_true.mp h x hx
  rwa [Bool.and_eq_true] at this
theorem Wx.rd (h : Wx m w x) : Rd m w x := by
  cases h with
  | d h => exact .d (w25_ok _ h).1
  | l h => exact .ref h (.cons (.d rfl) .nil)
theorem Wx.lim (h : Wx m w x) : strLim x = true := by
  cases h with
  | d h => exact (w25_ok _ h).2
  | l h => rfl
theorem Wx.fr0 (f : Fr [] m m') (h : Wx m w x) : Wx m' w x := by
  cases h with
  | d h => exact .d h
  | l h => exact .l (f.has h)
theorem Wx.fr (b : Bag i r m) (f : Fr [i] m m') (h : Wx m w x) : Wx m' w x := by
  cases h with
  | d h => exact .d h
  | @l n h =>
    refine .l (f.has h ?_)
    intro q
    have q' : n = i := by simpa using q
    subst q'
    obtain ⟨a, b', c, h2, _⟩ := b.bag
    have := Has.inj h h2
    simp at this
theorem word_ok (hb : Bag i r m) (hq : ∀ w x m', Wx m' w x → Bag i r m' → Fr [i] m m' → Q w m') : wpR (N__law_word [.ref i] m) Q := by
  unfold N__law_word
  refine w_run ?_
  have e : startE 2 [.ref i] = [some (.ref i), none] := rfl
  rw [e]
  unfold b__law_word
  have hil : i < m.cells.length := by obtain ⟨a, b, c, h, _⟩ := hb.bag; exact h.lt
  rw [w_seq, w_set]
  simp only [w_eN, w_aC, w_aN, w_C, o1_lst]
  refine ⟨by decide, ?_⟩
  have ea : [Wd.d (.str "a"), .d (.str "zz"), .d (.str "by"), .d (.str "hears"), .d (.str "move"), .d (.str "no"), .d (.str "open"), .d (.str "sign"), .d (.str "sounds"), .d (.str "state"), .d (.str "to"), .d (.str "witness"), .d (.str "yes"), .d (.str "abcdefgh")] = W25a.map .d := rfl
  rw [ea]
  have g1 : Has (m.openS.push (.lst (W25a.map .d))) m.openS.cells.length (.lst (W25a.map .d)) := has_push
  have f1 : Fr [] m.openS (m.openS.push (.lst (W25a.map .d))) := fr_push
  generalize m.openS.push (.lst (W25a.map .d)) = m1 at g1 f1
  simp only [w_ret, w_call, w_aC, w_aN, w_V, w_e2, w_eN, w_C, List.getElem?_cons_zero, List.getElem?_cons_succ, List.set_cons_zero, List.set_cons_succ, Option.some.injEq, exists_eq_left', exists_eq_left, Fl.rt.injEq, List.length_cons, List.length_nil, if_true, if_false, Bool.false_eq_true, true_and, and_true, Wd.d.injEq, PyData.bool.injEq, PyData.int.injEq, decide_eq_true_eq, o1_tup, o1_lst]
  refine ⟨by decide, by decide, by decide, ?_⟩
  have eb : [Wd.d (.str "abcdefghi"), .d (.str ""), .d (.str "A"), .d (.str "a1"), .d (.str "a "), .d (.str "nos"), .d (.str "a-b"), .d .none, .d (.int 7), .d (.bool true), mkTup [.d (.str "a")], .ref m1.cells.length] = W25b.map .d ++ [.ref m1.cells.length] := rfl
  rw [eb]
  have g2 : Has (m1.push (.lst [.d (.str "a")])) m1.cells.length (.lst [.d (.str "a")]) := has_push
  have f2 : Fr [] m1 (m1.push (.lst [.d (.str "a")])) := fr_push
  have g2' := f2.has g1
  generalize m1.push (.lst [.d (.str "a")]) = m2 at g2 f2 g2'
  rw [o1_cat (g2'.push) has_push (by show 26 ≤ 16777216; decide)]
  have f3 : Fr [] m.openS ((m2.push (.lst (W25b.map .d ++ [.ref m1.cells.length]))).push (.lst (W25a.map .d ++ (W25b.map .d ++ [.ref m1.cells.length])))) := ((f1.trans f2).trans fr_push).trans fr_push
  have g3 : Has ((m2.push (.lst (W25b.map .d ++ [.ref m1.cells.length]))).push (.lst (W25a.map .d ++ (W25b.map .d ++ [.ref m1.cells.length])))) m1.cells.length (.lst [.d (.str "a")]) := (g2.push).push
  refine some_ok (ws := W25a.map .d ++ (W25b.map .d ++ [.ref m1.cells.length])) ((hb.fr fr_open).fr f3) (s_ref has_push) ?_ (by simp [W25a, W25b]) (by simp [W25a, W25b]) fun k w' m4 hk hb4 f4 => ?_
  · intro e
    have e' : (m2.push (.lst (W25b.map .d ++ [.ref m1.cells.length]))).cells.length = i := by injection e
    have h1 := f1.le
    have h2 := f2.le
    have h3 : (m2.push (.lst (W25b.map .d ++ [.ref m1.cells.length]))).cells.length = m2.cells.length + 1 := by simp [Mm.push]
    have h4 : m.openS.cells.length = m.cells.length := rfl
    omega
  · refine fun m5 hc => ?_
    have hfr : Fr [i] m m5 := ((Fr.of_open f3).any.trans f4).cl hc
    have hb5 : Bag i r m5 := by
      obtain ⟨a, b, c, q1, q2⟩ := hb4.bag
      obtain ⟨xs, p1, p2⟩ := hb4.cells
      obtain ⟨xs0, p0, _⟩ := hb.cells
      exact ⟨hb4.ne, ⟨a, b, c, (hc.eq i hil).trans q1, q2⟩, xs, (hc.eq r p0.lt).trans p1, p2⟩
    have hmem := List.mem_of_getElem? hk
    rw [← List.append_assoc, ← List.map_append] at hmem
    rcases List.mem_append.mp hmem with q | q
    · obtain ⟨x, hx, rfl⟩ := List.mem_map.mp q
      exact hq _ x m5 (.d hx) hb5 hfr
    · have hw' : w' = .ref m1.cells.length := by simpa using q
      subst hw'
      have hne : m1.cells.length ∉ [i] := by
        have h1 := f1.le
        have h4 : m.openS.cells.length = m.cells.length := rfl
        simp; omega
      have hsame : m5.cells = m4.cells := hc.same (by
        have h1 := f1.le
        have h4 : m.openS.cells.length = m.cells.length := rfl
        show decide (m1.cells.length < m.cells.length) = false
        rw [decide_eq_false_iff_not]; omega)
      have g5 : Has m5 m1.cells.length (.lst [.d (.str "a")]) := by
        have := f4.has g3 hne
        unfold Has at this ⊢
        rw [hsame]; exact this
      exact hq _ _ m5 (.l g5) hb5 hfr
/-- the first inner loop -/
theorem loop1 {q0 q1 q2 q3 q4 q7 q8 q9 q10 q11 q12 q13 q14 : Option Wd} {l hh : Int} {ts : List Wd} {gd : Gd} {K : DL.Env → Mm → Prop} {QS : Fl → DL.Env → Mm → Prop} (hts : ∀ w ∈ ts, ∃ x, Rd m w x ∧ limD x = true) (hgd : ∀ m', Fr [] m m' → gdOk gd m' = true)
    (hK : ∀ q8 q9 m', Fr [] m m' → K [q0, q1, q2, q3, q4, some (.d (.int l)), some (.d (.int hh)), q7, q8, q9, q10, q11, q12, q13, q14] m') :
    wpS (forL (.name 8) (sSeq (sSet 9 (eAnd (eIsi ["tuple"] (eV 8)) (e2 eqO (eLc (iVal (eV 8)) (.name 14) (bNot (bV (eCall 1 N__law_is_name (aC (eV 14) aN)))) (eC (.d (.int 1))) [14]) (eN lstO (aN))))) <|
sSeq (sSet 9 (eAnd (eV 9) (eAnd (eCall 1 N__law_are_unlike (aC (eV 8) aN)) (eCh leO leO (eV 5) (eN lenO (aC (eV 8) aN)) (eV 6))))) <|
sIf (bNot (bV (eCall 2 N__law_alike (aC (eCall 3 N_are_names (aC (eV 8) (aC (eV 5) (aC (eV 6) aN)))) (aC (eV 9) aN)))))
(sRet (eC (.d (.bool false))))
(sNop)) gd ts [q0, q1, q2, q3, q4, some (.d (.int l)), some (.d (.int hh)), q7, q8, q9, q10, q11, q12, q13, q14] m) K QS := by
  refine w_for0 (fun k e mm => (∃ q8 q9, e = [q0, q1, q2, q3, q4, some (.d (.int l)), some (.d (.int hh)), q7, q8, q9, q10, q11, q12, q13, q14]) ∧ Fr [] m mm) ⟨⟨_, _, rfl⟩, .refl⟩ (fun k e mm hI => hgd mm hI.2) (fun k e mm w hw hI => ?_) fun e mm hI => ?_
  · obtain ⟨⟨q8, q9, rfl⟩, f⟩ := hI
    obtain ⟨x, hx, hl⟩ := hts w (List.mem_of_getElem? hw)
    have hx' := hx.fr f
    refine ⟨_, rfl, ?_⟩
    simp only [List.getElem?_cons_zero, List.getElem?_cons_succ, List.set_cons_zero, List.set_cons_succ, Option.some.injEq, exists_eq_left', exists_eq_left, Fl.rt.injEq, List.length_cons, List.length_nil, if_true, if_false, Bool.false_eq_true, true_and, and_true, Wd.d.injEq, PyData.bool.injEq, PyData.int.injEq, decide_eq_true_eq]
    rw [w_seq, w_set]
    refine due1_ok rfl rfl hx' hl fun m1 f1 => ?_
    rw [w_seq, w_set]
    refine due2_ok (w := w) (x := x) rfl rfl rfl rfl (hx'.fr f1) hl fun m2 f2 => ?_
    refine chk_ok ?_
    simp only [w_call, w_aC, w_aN, w_V, List.getElem?_cons_zero, List.getElem?_cons_succ, List.set_cons_zero, List.set_cons_succ, Option.some.injEq, exists_eq_left', exists_eq_left, Fl.rt.injEq, List.length_cons, List.length_nil, if_true, if_false, Bool.false_eq_true, true_and, and_true, Wd.d.injEq, PyData.bool.injEq, PyData.int.injEq, decide_eq_true_eq]
    refine are_names_ok ((hx'.fr f1).fr f2) hl fun m3 f3 => ?_
    refine ⟨.bool (areNamesD l hh x), .d rfl, by rw [due_eq]; exact .d rfl, by show 1 ≤ 16777216; decide, fun m4 f4 => ⟨⟨_, _, rfl⟩, (((f.trans f1).trans f2).trans f3).trans f4⟩⟩
  · obtain ⟨⟨q8, q9, rfl⟩, f⟩ := hI
    exact hK q8 q9 mm f
/-- the second inner loop -/
theorem loop2 {q0 q1 q2 q3 q4 q5 q6 q7 q8 q9 q11 q12 q13 q14 : Option Wd} {ns : List Str} {ts : List Wd} {gd : Gd} {K : DL.Env → Mm → Prop} {QS : Fl → DL.Env → Mm → Prop} (hn : Nms ns) (hts : ∀ w ∈ ts, ∃ x, Th m w x) (hgd : ∀ m', Fr [] m m' → gdOk gd m' = true)
    (hK : ∀ q8 q12 m', Fr [] m m' → K [q0, q1, q2, q3, q4, q5, q6, q7, q8, q9, some (.d (.tuple (ns.map .str))), q11, q12, q13, q14] m') :
    wpS (forL (.name 8) (sSeq (sSet 12 (eAnd (eIsi ["tuple"] (eV 8)) (eAnd (e2 eqO (eLc (iVal (eV 8)) (.name 14) (b2 niO (eV 14) (eV 10)) (eC (.d (.int 1))) [14]) (eN lstO (aN))) (eCall 1 N__law_are_unlike (aC (eV 8) aN))))) <|
sSeq (sIf (bNot (bV (eCall 2 N__law_alike (aC (eCall 2 N_are_some_of (aC (eV 8) (aC (eV 10) aN))) (aC (eAnd (eV 12) (e2 neO (eV 8) (eN tupO (aN)))) aN)))))
(sRet (eC (.d (.bool false))))
(sNop)) <|
sIf (bNot (bV (eCall 2 N__law_alike (aC (eCall 2 N_is_lot (aC (eV 8) (aC (eV 10) aN))) (aC (eAnd (eV 12) (e2 eqO (eN listO (aC (eV 8) aN)) (eN sortO (aC (eV 8) aN)))) aN)))))
(sRet (eC (.d (.bool false))))
(sNop)) gd ts [q0, q1, q2, q3, q4, q5, q6, q7, q8, q9, some (.d (.tuple (ns.map .str))), q11, q12, q13, q14] m) K QS := by
  refine w_for0 (fun k e mm => (∃ q8 q12, e = [q0, q1, q2, q3, q4, q5, q6, q7, q8, q9, some (.d (.tuple (ns.map .str))), q11, q12, q13, q14]) ∧ Fr [] m mm) ⟨⟨_, _, rfl⟩, .refl⟩ (fun k e mm hI => hgd mm hI.2) (fun k e mm w hw hI => ?_) fun e mm hI => ?_
  · obtain ⟨⟨q8, q12, rfl⟩, f⟩ := hI
    obtain ⟨x, hx⟩ := hts w (List.mem_of_getElem? hw)
    have hx' := hx.fr f
    refine ⟨_, rfl, ?_⟩
    simp only [List.getElem?_cons_zero, List.getElem?_cons_succ, List.set_cons_zero, List.set_cons_succ, Option.some.injEq, exists_eq_left', exists_eq_left, Fl.rt.injEq, List.length_cons, List.length_nil, if_true, if_false, Bool.false_eq_true, true_and, and_true, Wd.d.injEq, PyData.bool.injEq, PyData.int.injEq, decide_eq_true_eq]
    rw [w_seq, w_set]
    refine unl_ok rfl rfl rfl hx' fun m1 f1 => ?_
    have hx1 := hx'.fr f1
    have hx1r := hx1.rd
    -- what unlike being true says
    have hu : unlikeD ns x = true → ∃ ds, x = .tuple ds ∧ w = .d (.tuple ds) ∧ (∀ y ∈ ds, y ∈ D6) ∧ ds.all (inN ns) = true := by
      intro h
      cases hx with
      | non => cases h
      | lst _ _ _ => cases h
      | @tup ds h1 h2 =>
        have h' : (ds.all (inN ns) && decide (ds.map strOf).Nodup) = true := h
        rw [Bool.and_eq_true] at h'
        exact ⟨ds, rfl, rfl, h1, h'.1⟩
    have hnon : unlikeD ns x = false → areSomeD ns x = false ∧ isLotD ns x = false := by
      intro h
      cases hx with
      | non => exact ⟨rfl, rfl⟩
      | lst _ _ _ => exact ⟨rfl, rfl⟩
      | @tup ds h1 h2 => exact ⟨by rw [some_eq hn, h]; rfl, by rw [lot_eq hn, h]; rfl⟩
    rw [w_seq]
    refine chk_ok ?_
    simp only [w_call, w_aC, w_aN, w_V, List.getElem?_cons_zero, List.getElem?_cons_succ, List.set_cons_zero, List.set_cons_succ, Option.some.injEq, exists_eq_left', exists_eq_left, Fl.rt.injEq, List.length_cons, List.length_nil, if_true, if_false, Bool.false_eq_true, true_and, and_true, Wd.d.injEq, PyData.bool.injEq, PyData.int.injEq, decide_eq_true_eq]
    refine some_of_ok hx1 fun m2 f2 => ?_
    rw [w_eAnd, w_V]
    simp only [List.getElem?_cons_zero, List.getElem?_cons_succ, List.set_cons_zero, List.set_cons_succ, Option.some.injEq, exists_eq_left', exists_eq_left, Fl.rt.injEq, List.length_cons, List.length_nil, if_true, if_false, Bool.false_eq_true, true_and, and_true, Wd.d.injEq, PyData.bool.injEq, PyData.int.injEq, decide_eq_true_eq]
    have step2 : ∀ m3, Fr [] m m3 → wpS (sIf (bNot (bV (eCall 2 N__law_alike (aC (eCall 2 N_is_lot (aC (eV 8) (aC (eV 10) aN))) (aC (eAnd (eV 12) (e2 eqO (eN listO (aC (eV 8) aN)) (eN sortO (aC (eV 8) aN)))) aN))))) (sRet (eC (.d (.bool false)))) (sNop) [q0, q1, q2, q3, q4, q5, q6, q7, some w, q9, some (.d (.tuple (ns.map .str))), q11, some (.d (.bool (unlikeD ns x))), q13, q14] m3)
        (fun e mm => (∃ q8 q12, e = [q0, q1, q2, q3, q4, q5, q6, q7, q8, q9, some (.d (.tuple (ns.map .str))), q11, q12, q13, q14]) ∧ Fr [] m mm) (brk K (fun e mm => (∃ q8 q12, e = [q0, q1, q2, q3, q4, q5, q6, q7, q8, q9, some (.d (.tuple (ns.map .str))), q11, q12, q13, q14]) ∧ Fr [] m mm) QS) := by
      intro m3 f3
      refine chk_ok ?_
      simp only [w_call, w_aC, w_aN, w_V, List.getElem?_cons_zero, List.getElem?_cons_succ, List.set_cons_zero, List.set_cons_succ, Option.some.injEq, exists_eq_left', exists_eq_left, Fl.rt.injEq, List.length_cons, List.length_nil, if_true, if_false, Bool.false_eq_true, true_and, and_true, Wd.d.injEq, PyData.bool.injEq, PyData.int.injEq, decide_eq_true_eq]
      refine lot_ok (hx.fr f3) fun m4 f4 => ?_
      rw [w_eAnd, w_V]
      simp only [List.getElem?_cons_zero, List.getElem?_cons_succ, List.set_cons_zero, List.set_cons_succ, Option.some.injEq, exists_eq_left', exists_eq_left, Fl.rt.injEq, List.length_cons, List.length_nil, if_true, if_false, Bool.false_eq_true, true_and, and_true, Wd.d.injEq, PyData.bool.injEq, PyData.int.injEq, decide_eq_true_eq]
      cases hq : unlikeD ns x with
      | false =>
        refine ⟨false, rfl, ?_⟩
        simp only [List.getElem?_cons_zero, List.getElem?_cons_succ, List.set_cons_zero, List.set_cons_succ, Option.some.injEq, exists_eq_left', exists_eq_left, Fl.rt.injEq, List.length_cons, List.length_nil, if_true, if_false, Bool.false_eq_true, true_and, and_true, Wd.d.injEq, PyData.bool.injEq, PyData.int.injEq, decide_eq_true_eq]
        exact ⟨.bool false, by rw [(hnon hq).2]; exact .d rfl, .d rfl, by show 1 ≤ 16777216; decide, fun m5 f5 => ⟨⟨_, _, rfl⟩, (f3.trans f4).trans f5⟩⟩
      | true =>
        refine ⟨true, rfl, ?_⟩
        obtain ⟨ds, rfl, rfl, h1, h2⟩ := hu hq
        rw [if_pos rfl]
        refine sort_eq_ok (ns := ns) rfl h1 h2 fun m5 f5 => ?_
        refine ⟨.bool (sortedB ds), by rw [lot_eq hn, hq, Bool.true_and]; exact .d rfl, .d rfl, by show 1 ≤ 16777216; decide, fun m6 f6 => ⟨⟨_, _, rfl⟩, ((f3.trans f4).trans f5).trans f6⟩⟩
    cases hq : unlikeD ns x with
    | false =>
      refine ⟨false, rfl, ?_⟩
      simp only [List.getElem?_cons_zero, List.getElem?_cons_succ, List.set_cons_zero, List.set_cons_succ, Option.some.injEq, exists_eq_left', exists_eq_left, Fl.rt.injEq, List.length_cons, List.length_nil, if_true, if_false, Bool.false_eq_true, true_and, and_true, Wd.d.injEq, PyData.bool.injEq, PyData.int.injEq, decide_eq_true_eq]
      refine ⟨.bool false, by rw [(hnon hq).1]; exact .d rfl, .d rfl, by show 1 ≤ 16777216; decide, fun m5 f5 => ?_⟩
      have hst := step2 m5 (((f.trans f1).trans f2).trans f5)
      rw [hq] at hst
      exact hst
    | true =>
      refine ⟨true, rfl, ?_⟩
      obtain ⟨ds, rfl, rfl, h1, h2⟩ := hu hq
      simp only [List.getElem?_cons_zero, List.getElem?_cons_succ, List.set_cons_zero, List.set_cons_succ, Option.some.injEq, exists_eq_left', exists_eq_left, Fl.rt.injEq, List.length_cons, List.length_nil, if_true, if_false, Bool.false_eq_true, true_and, and_true, Wd.d.injEq, PyData.bool.injEq, PyData.int.injEq, decide_eq_true_eq, w_e2, w_V, w_eN, w_aN, o1_tup]
      refine ⟨by decide, ?_⟩
      rw [show mkTup [] = .d (.tuple []) from rfl, o1_neW (x := .tuple ds) (y := .tuple []) rfl rfl (by rw [(d6_shaped h1).1]; simp; right; decide +kernel), eqv_tnil]
      refine ⟨.bool (areSomeD ns (.tuple ds)), .d rfl, by rw [some_eq hn, hq, Bool.true_and]; exact .d rfl, by show 1 ≤ 16777216; decide, fun m5 f5 => ?_⟩
      have hst := step2 m5 (((f.trans f1).trans f2).trans f5)
      rw [hq] at hst
      exact hst
  · obtain ⟨⟨q8, q12, rfl⟩, f⟩ := hI
    exact hK q8 q12 mm f
def W10 : List PyData := [.int 0, .int 1, .int (-1), .int 7, .bool true, .bool false, .none, .str "1", .int (10 ^ 40), .tuple [.int 1]]
theorem w10_ok : ∀ x ∈ W10, okD x = true := by
  have h : W10.all okD = true := by kernel_rfl
  exact fun x hx => List.all_eq_true.mp h x hx
theorem bag_lt (hb : Bag i r m) : i < m.cells.length := by obtain ⟨a, b, c, h, _⟩ := hb.bag; exact h.lt
/-- a drawn one of a list that was just made -/
theorem drawn_ok {ws : List Wd} {n : Nat} (hb : Bag i r m) (h : Has m n (.lst ws)) (hn : n ≠ i) (h0 : 0 < ws.length) (h1 : ws.length < 1073741824) (hq : ∀ w' m', w' ∈ ws → Bag i r m' → Fr [i] m m' → Q w' m') : wpR (N__law_some [.ref i, .ref n] m) Q :=
  some_ok hb (s_ref h) (fun e => hn (by injection e)) h0 h1 fun k w' m' hk hb' f => hq w' m' (List.mem_of_getElem? hk) hb' f
theorem fr_any {S : List Nat} (f : Fr [] m m') : Fr S m m' := f.any
/-- a row of words -/
theorem row_ok {env : DL.Env} (he : env[1]? = some (some (.ref i))) (hlen : env.length = 15) (hb : Bag i r m) (hq : ∀ w ds m', Rd m' w (.tuple ds) → ds.length ≤ 3 → ds.all strLim = true → (∀ m2, Fr [i] m' m2 → Bag i r m' → Rd m2 w (.tuple ds)) → Bag i r m' → Fr [i] m m' → Q w m') :
    wpR (eN tupleO (aC (eLc (iRan1 (aC (eCall 2 N__law_take (aC (eV 1) (aC (eC (.d (.int 4))) aN))) aN)) (.name 13) (fun _ m => .ok true m) (eCall 1 N__law_word (aC (eV 1) aN)) [13]) aN) env m) Q := by
  simp only [w_eN, w_aC, w_aN, w_lc, w_ran1, w_call, w_V, w_C, he, List.getElem?_cons_zero, List.getElem?_cons_succ, List.set_cons_zero, List.set_cons_succ, Option.some.injEq, exists_eq_left', exists_eq_left, Fl.rt.injEq, List.length_cons, List.length_nil, if_true, if_false, Bool.false_eq_true, true_and, and_true, Wd.d.injEq, PyData.bool.injEq, PyData.int.injEq, decide_eq_true_eq]
  refine take_ok hb (by decide) (by decide) fun v m1 h0 h1 hb1 f1 => ?_
  refine ⟨v, rfl, by unfold range62; rw [decide_eq_true_eq]; omega, ?_⟩
  have hs1 : ∀ u : Wd, ((forget [13] env).set 13 (some u))[1]? = some (some (.ref i)) := fun u => by
    show ((env.set 13 none).set 13 (some u))[1]? = _
    rw [List.getElem?_set_ne (by decide), List.getElem?_set_ne (by decide), he]
  have h00 : ∀ (j : Nat) (w : Wd), ([] : List Wd)[j]? = some w → ∃ x, ([] : List PyData)[j]? = some x ∧ Wx m1 w x := fun j w e => by simp at e
  have hl4 : (DL.intsFrom 0 v.toNat).length ≤ 3 := by unfold DL.intsFrom; rw [List.length_map, List.length_range]; omega
  refine w_lc0 (fun k acc mm => Bag i r mm ∧ Fr [i] m mm ∧ acc.length = k ∧ ∃ ds : List PyData, ds.length = k ∧ ds.all strLim = true ∧ ∀ (j : Nat) (w : Wd), acc[j]? = some w → ∃ x, ds[j]? = some x ∧ Wx mm w x) ⟨hb1, f1, rfl, [], rfl, rfl, h00⟩ (fun _ _ _ _ => gdOk_nil) (fun k acc mm w hw hI => ?_) fun acc mm hI => ?_
  · obtain ⟨hb2, f2, hk, ds, hd, hds, hall⟩ := hI
    refine ⟨_, rfl, ?_⟩
    simp only [wpR_ok, w_call, w_aC, w_aN, w_V, hs1, List.getElem?_cons_zero, List.getElem?_cons_succ, List.set_cons_zero, List.set_cons_succ, Option.some.injEq, exists_eq_left', exists_eq_left, Fl.rt.injEq, List.length_cons, List.length_nil, if_true, if_false, Bool.false_eq_true, true_and, and_true, Wd.d.injEq, PyData.bool.injEq, PyData.int.injEq, decide_eq_true_eq]
    refine word_ok hb2 fun w' x m3 hx hb3 f3 => ?_
    have hkl : k < (DL.intsFrom 0 v.toNat).length := (List.getElem?_eq_some_iff.mp hw).1
    refine ⟨by rw [hk]; show k < 16777216; omega, hb3, f2.trans f3, by simp [hk], ds ++ [x], by simp [hd], by rw [List.all_append, hds]; simp [hx.lim], fun j u e => ?_⟩
    by_cases hj : j < acc.length
    · rw [List.getElem?_append_left hj] at e
      obtain ⟨y, e1, r1⟩ := hall j u e
      exact ⟨y, by rw [List.getElem?_append_left (by omega)]; exact e1, r1.fr hb2 f3⟩
    · have hjl := (List.getElem?_eq_some_iff.mp e).1
      have ej : j = acc.length := by simp at hjl; omega
      subst ej
      rw [List.getElem?_append_right (Nat.le_refl _)] at e
      simp at e
      subst e
      exact ⟨x, by rw [List.getElem?_append_right (by omega), hd, hk]; simp, hx⟩
  · obtain ⟨hb2, f2, hk, ds, hd, hds, hall⟩ := hI
    have rds : ∀ (acc : List Wd) (ds : List PyData) (mm : Mm), acc.length = ds.length → (∀ (j : Nat) (w : Wd), acc[j]? = some w → ∃ x, ds[j]? = some x ∧ Wx mm w x) → Rds mm acc ds := by
      intro acc
      induction acc with
      | nil => intro ds mm h _; cases ds with | nil => exact .nil | cons _ _ => simp at h
      | cons w acc ih =>
        intro ds mm h hx
        cases ds with
        | nil => simp at h
        | cons d ds =>
          obtain ⟨x, e1, r1⟩ := hx 0 w rfl
          have : d = x := by simpa using e1
          subst this
          exact .cons r1.rd (ih ds mm (by simpa using h) fun j u e => by
            obtain ⟨y, q1, q2⟩ := hx (j + 1) u (by simpa using e)
            exact ⟨y, by simpa using q1, q2⟩)
    have hlen2 : acc.length = ds.length := by omega
    rw [o1_tuple (s_ref has_push)]
    have fp : Fr [] mm (mm.push (.lst acc)) := fr_push
    refine hq (mkTup acc) ds _ (rd_tup ((rds acc ds mm hlen2 hall).fr fp)) (by omega) hds (fun m2 f3 hb3 => ?_) (hb2.fr fp) (f2.trans fp.any)
    exact rd_tup (rds acc ds m2 hlen2 fun j w e => by
      obtain ⟨x, e1, r1⟩ := hall j w e
      exact ⟨x, e1, (r1.fr0 fp).fr hb3 f3⟩)
/-- a row of drawn names and others -/
theorem some_row_ok {env : DL.Env} {ns : List Str} (hn : Nms ns) (he : env[1]? = some (some (.ref i))) (h10 : env[10]? = some (some (.d (.tuple (ns.map .str))))) (hlen : env.length = 15) (hb : Bag i r m) (hq : ∀ ds m', (∀ x ∈ ds, x ∈ D6) → ds.length ≤ 3 → Bag i r m' → Fr [i] m m' → Q (.d (.tuple ds)) m') :
    wpR (eN tupleO (aC (eLc (iRan1 (aC (eCall 2 N__law_take (aC (eV 1) (aC (eC (.d (.int 4))) aN))) aN)) (.name 13) (fun _ m => .ok true m) (eCall 2 N__law_some (aC (eV 1) (aC (e2 addO (eN listO (aC (eV 10) aN)) (eN lstO (aC (eC (.d .none)) (aC (eC (.d (.str "x"))) aN)))) aN))) [13]) aN) env m) Q := by
  simp only [w_eN, w_aC, w_aN, w_lc, w_ran1, w_call, w_V, w_C, he, List.getElem?_cons_zero, List.getElem?_cons_succ, List.set_cons_zero, List.set_cons_succ, Option.some.injEq, exists_eq_left', exists_eq_left, Fl.rt.injEq, List.length_cons, List.length_nil, if_true, if_false, Bool.false_eq_true, true_and, and_true, Wd.d.injEq, PyData.bool.injEq, PyData.int.injEq, decide_eq_true_eq]
  refine take_ok hb (by decide) (by decide) fun v m1 h0 h1 hb1 f1 => ?_
  refine ⟨v, rfl, by unfold range62; rw [decide_eq_true_eq]; omega, ?_⟩
  have hs1 : ∀ u : Wd, ((forget [13] env).set 13 (some u))[1]? = some (some (.ref i)) := fun u => by
    show ((env.set 13 none).set 13 (some u))[1]? = _
    rw [List.getElem?_set_ne (by decide), List.getElem?_set_ne (by decide), he]
  have hs10 : ∀ u : Wd, ((forget [13] env).set 13 (some u))[10]? = some (some (.d (.tuple (ns.map .str)))) := fun u => by
    show ((env.set 13 none).set 13 (some u))[10]? = _
    rw [List.getElem?_set_ne (by decide), List.getElem?_set_ne (by decide), h10]
  have hl4 : (DL.intsFrom 0 v.toNat).length ≤ 3 := by unfold DL.intsFrom; rw [List.length_map, List.length_range]; omega
  refine w_lc0 (fun k acc mm => Bag i r mm ∧ Fr [i] m mm ∧ ∃ ds : List PyData, acc = ds.map .d ∧ ds.length = k ∧ ∀ x ∈ ds, x ∈ D6) ⟨hb1, f1, [], rfl, rfl, by simp⟩ (fun _ _ _ _ => gdOk_nil) (fun k acc mm w hw hI => ?_) fun acc mm hI => ?_
  · obtain ⟨hb2, f2, ds, rfl, hd, hall⟩ := hI
    refine ⟨_, rfl, ?_⟩
    have hsq : seqOf mm (.d (.tuple (ns.map .str))) = some ((ns.map .str).map .d) := rfl
    simp only [wpR_ok, w_call, w_aC, w_aN, w_V, w_e2, w_eN, w_C, hs1, hs10, List.getElem?_cons_zero, List.getElem?_cons_succ, List.set_cons_zero, List.set_cons_succ, Option.some.injEq, exists_eq_left', exists_eq_left, Fl.rt.injEq, List.length_cons, List.length_nil, if_true, if_false, Bool.false_eq_true, true_and, and_true, Wd.d.injEq, PyData.bool.injEq, PyData.int.injEq, decide_eq_true_eq, o1_list hsq, o1_lst]
    refine ⟨by decide, ?_⟩
    have hnl := hn.len
    rw [o1_cat (has_push.push) has_push (by rw [List.length_map, List.length_map]; show ns.length + 2 ≤ 16777216; omega)]
    have f3 : Fr [] mm (((mm.push (.lst ((ns.map .str).map .d))).push (.lst [.d .none, .d (.str "x")])).push (.lst ((ns.map .str).map .d ++ [.d .none, .d (.str "x")]))) := (fr_push.trans fr_push).trans fr_push
    refine drawn_ok (hb2.fr f3) has_push (by have := bag_lt hb2; simp [Mm.push]; omega) (by simp) (by rw [List.length_append, List.length_map, List.length_map]; show ns.length + 2 < 1073741824; omega) fun w' m4 hw' hb4 f4 => ?_
    have hkl : k < (DL.intsFrom 0 v.toNat).length := (List.getElem?_eq_some_iff.mp hw).1
    have hx : ∃ x ∈ D6, w' = .d x := by
      rcases List.mem_append.mp hw' with q | q
      · obtain ⟨y, hy, rfl⟩ := List.mem_map.mp q
        obtain ⟨s, hs, rfl⟩ := List.mem_map.mp hy
        have h4 := hn.sub s hs
        refine ⟨_, ?_, rfl⟩
        have : (PyData.str s) ∈ N4.map PyData.str := List.mem_map.mpr ⟨s, h4, rfl⟩
        have hsub : ∀ y ∈ N4.map PyData.str, y ∈ D6 := by
          intro y hy
          simp [N4] at hy
          simp [D6]
          rcases hy with h | h | h | h <;> simp [h]
        exact hsub _ this
      · have q' : w' = .d .none ∨ w' = .d (.str "x") := by simpa using q
        rcases q' with q | q
        · exact ⟨_, by simp [D6], q⟩
        · exact ⟨_, by simp [D6], q⟩
    obtain ⟨x, hx, rfl⟩ := hx
    refine ⟨by rw [List.length_map, hd]; show k < 16777216; omega, hb4, (f2.trans f3.any).trans f4, ds ++ [x], by simp, by simp [hd], fun y hy => ?_⟩
    rcases List.mem_append.mp hy with q | q
    · exact hall y q
    · rw [List.mem_singleton.mp q]; exact hx
  · obtain ⟨hb2, f2, ds, rfl, hd, hall⟩ := hI
    rw [o1_tuple (s_ref has_push), mkTup_map]
    exact hq ds _ hall (by omega) (hb2.fr fr_push) (f2.trans fr_push.any)
theorem n4_d6 : ∀ s ∈ N4, PyData.str s ∈ D6 := by
  intro s hs
  simp [N4] at hs
  simp [D6]
  rcases hs with h | h | h | h <;> simp [h]
theorem nms_take : ∀ k : Nat, 1 ≤ k → k ≤ 4 → Nms (N4.take k) := by
  intro k h1 h2
  have hnd : N4.Nodup := by
    have : decide N4.Nodup = true := by kernel_rfl
    exact of_decide_eq_true this
  refine ⟨fun s hs => List.mem_of_mem_take hs, hnd.sublist (List.take_sublist k N4), ?_, ?_⟩
  · rw [List.length_take]; show 1 ≤ min k 4; omega
  · rw [List.length_take]; show min k 4 ≤ 4; omega
end
end K01
set_option Elab.async false
set_option linter.all false
set_option maxRecDepth 100000
set_option maxHeartbeats 4000000
namespace K01
open PySem PySem.Spec PyProof.Rows L2 DL Hn
theorem int_and_ok {m : Mm} {Q : Wd → Mm → Prop} {env : DL.Env} {xn : PyData} {l hh : Int} (h4 : env[4]? = some (some (.d xn))) (h5 : env[5]? = some (some (.d (.int l)))) (h6 : env[6]? = some (some (.d (.int hh)))) (hok : okD xn = true) (hq : ∀ m', Fr [] m m' → Q (.d (.bool (withinD l hh xn))) m') :
    wpR (eAnd (eCall 1 N__law_is_int (aC (eV 4) aN)) (eCh leO leO (eV 5) (eV 4) (eV 6)) env m) Q := by
  rw [w_eAnd, w_call]
  simp only [w_aC, w_aN, w_V, h4, List.getElem?_cons_zero, List.getElem?_cons_succ, List.set_cons_zero, List.set_cons_succ, Option.some.injEq, exists_eq_left', exists_eq_left, Fl.rt.injEq, List.length_cons, List.length_nil, if_true, if_false, Bool.false_eq_true, true_and, and_true, Wd.d.injEq, PyData.bool.injEq, PyData.int.injEq, decide_eq_true_eq]
  refine lint_ok (.d hok) fun m1 f1 => ⟨_, rfl, ?_⟩
  cases xn with
  | int j =>
    show wpR _ Q
    simp only [w_eCh, w_V, h4, h5, h6, List.getElem?_cons_zero, List.getElem?_cons_succ, List.set_cons_zero, List.set_cons_succ, Option.some.injEq, exists_eq_left', exists_eq_left, Fl.rt.injEq, List.length_cons, List.length_nil, if_true, if_false, Bool.false_eq_true, true_and, and_true, Wd.d.injEq, PyData.bool.injEq, PyData.int.injEq, decide_eq_true_eq, o1_le]
    by_cases h1 : l ≤ j
    · simp only [h1, decide_true, List.getElem?_cons_zero, List.getElem?_cons_succ, List.set_cons_zero, List.set_cons_succ, Option.some.injEq, exists_eq_left', exists_eq_left, Fl.rt.injEq, List.length_cons, List.length_nil, if_true, if_false, Bool.false_eq_true, true_and, and_true, Wd.d.injEq, PyData.bool.injEq, PyData.int.injEq, decide_eq_true_eq]
      have : withinD l hh (.int j) = decide (j ≤ hh) := by simp [withinD, h1]
      rw [← this]; exact hq _ f1
    · simp only [h1, decide_false, List.getElem?_cons_zero, List.getElem?_cons_succ, List.set_cons_zero, List.set_cons_succ, Option.some.injEq, exists_eq_left', exists_eq_left, Fl.rt.injEq, List.length_cons, List.length_nil, if_true, if_false, Bool.false_eq_true, true_and, and_true, Wd.d.injEq, PyData.bool.injEq, PyData.int.injEq, decide_eq_true_eq]
      have : withinD l hh (.int j) = false := by simp [withinD, h1]
      rw [← this]; exact hq _ f1
  | _ => exact hq _ f1
theorem rds_app {m : Mm} : ∀ {ws us : List Wd} {ds es : List PyData}, Rds m ws ds → Rds m us es → Rds m (ws ++ us) (ds ++ es)
  | _, _, _, _, .nil, h => h
  | _, _, _, _, .cons h hs, h' => .cons h (rds_app hs h')
theorem pure_law (ns : List Int) (h : ns.length ≤ 63) : ∃ m', N_law [scriptW ns] ⟨[], []⟩ = .ok (.d (.bool true)) m' := by
  suffices hs : wpR (N_law [scriptW ns] ⟨[], []⟩) (fun w _ => w = .d (.bool true)) by
    obtain ⟨w, m', e, rfl⟩ := wpR_eq hs
    exact ⟨m', e⟩
  unfold N_law
  refine w_run ?_
  have e : startE 15 [scriptW ns] = [some (scriptW ns), none, none, none, none, none, none, none, none, none, none, none, none, none, none] := rfl
  rw [e]
  unfold b_law
  rw [w_seq, w_set, w_call]
  simp only [w_aC, w_aN, w_V, List.getElem?_cons_zero, List.getElem?_cons_succ, List.set_cons_zero, List.set_cons_succ, Option.some.injEq, exists_eq_left', exists_eq_left, Fl.rt.injEq, List.length_cons, List.length_nil, if_true, if_false, Bool.false_eq_true, true_and, and_true, Wd.d.injEq, PyData.bool.injEq, PyData.int.injEq, decide_eq_true_eq]
  refine bag_ok h fun i r m1 hb1 f1 _ => ?_
  rw [w_seq, w_for, w_ran1]
  simp only [w_aC, w_aN, w_C, List.getElem?_cons_zero, List.getElem?_cons_succ, List.set_cons_zero, List.set_cons_succ, Option.some.injEq, exists_eq_left', exists_eq_left, Fl.rt.injEq, List.length_cons, List.length_nil, if_true, if_false, Bool.false_eq_true, true_and, and_true, Wd.d.injEq, PyData.bool.injEq, PyData.int.injEq, decide_eq_true_eq]
  refine ⟨10, rfl, by decide, ?_⟩
  generalize hsc : scriptW ns = sc
  refine w_for0 (fun k e mm => Bag i r mm ∧ ∃ q2 q3 q4 q5 q6 q7 q8 q9 q10 q11 q12 q13 q14, e = [some sc, some (.ref i), q2, q3, q4, q5, q6, q7, q8, q9, q10, q11, q12, q13, q14]) ⟨hb1, _, _, _, _, _, _, _, _, _, _, _, _, _, rfl⟩ (fun _ _ _ _ => gdOk_nil) (fun k e m w hw hI => ?_) fun e m hI => ?_
  · obtain ⟨hb, q2, q3, q4, q5, q6, q7, q8, q9, q10, q11, q12, q13, q14, rfl⟩ := hI
    refine ⟨_, rfl, ?_⟩
    try simp only [List.getElem?_cons_zero, List.getElem?_cons_succ, List.set_cons_zero, List.set_cons_succ, Option.some.injEq, exists_eq_left', exists_eq_left, Fl.rt.injEq, List.length_cons, List.length_nil, if_true, if_false, Bool.false_eq_true, true_and, and_true, Wd.d.injEq, PyData.bool.injEq, PyData.int.injEq, decide_eq_true_eq]
    -- word, number
    rw [w_seq, w_par, w_aC, w_call]
    simp only [w_aC, w_aN, w_V, List.getElem?_cons_zero, List.getElem?_cons_succ, List.set_cons_zero, List.set_cons_succ, Option.some.injEq, exists_eq_left', exists_eq_left, Fl.rt.injEq, List.length_cons, List.length_nil, if_true, if_false, Bool.false_eq_true, true_and, and_true, Wd.d.injEq, PyData.bool.injEq, PyData.int.injEq, decide_eq_true_eq]
    refine word_ok hb fun word xw m2 hx2 hb2 f2 => ?_
    simp only [w_call, w_aC, w_aN, w_V, w_C, w_eN, w_e1, w_e2, List.getElem?_cons_zero, List.getElem?_cons_succ, List.set_cons_zero, List.set_cons_succ, Option.some.injEq, exists_eq_left', exists_eq_left, Fl.rt.injEq, List.length_cons, List.length_nil, if_true, if_false, Bool.false_eq_true, true_and, and_true, Wd.d.injEq, PyData.bool.injEq, PyData.int.injEq, decide_eq_true_eq, o1_neg, o1_pow, o1_tup, o1_lst]
    refine ⟨by decide, by decide, by decide, ?_⟩
    have ew : [Wd.d (.int 0), .d (.int 1), .d (.int (-1)), .d (.int 7), .d (.bool true), .d (.bool false), .d .none, .d (.str "1"), .d (.int (10 ^ Int.toNat 40)), mkTup [.d (.int 1)]] = W10.map .d := rfl
    rw [ew]
    have g3 : Fr [] m2 (m2.push (.lst (W10.map .d))) := fr_push
    refine drawn_ok (hb2.fr g3) has_push (by have := bag_lt hb2; omega) (by simp [W10]) (by simp [W10]) fun number m3 hnum hb3 f3 => ?_
    obtain ⟨xn, hxn, rfl⟩ := List.mem_map.mp hnum
    have hxn' := w10_ok xn hxn
    refine ⟨_, rfl, ?_⟩
    have hx3 : Wx m3 word xw := (hx2.fr0 g3).fr (hb2.fr g3) f3
    try simp only [List.getElem?_cons_zero, List.getElem?_cons_succ, List.set_cons_zero, List.set_cons_succ, Option.some.injEq, exists_eq_left', exists_eq_left, Fl.rt.injEq, List.length_cons, List.length_nil, if_true, if_false, Bool.false_eq_true, true_and, and_true, Wd.d.injEq, PyData.bool.injEq, PyData.int.injEq, decide_eq_true_eq]
    -- least, most
    rw [w_seq, w_par, w_aC, w_e2, w_call]
    simp only [w_aC, w_aN, w_V, w_C, List.getElem?_cons_zero, List.getElem?_cons_succ, List.set_cons_zero, List.set_cons_succ, Option.some.injEq, exists_eq_left', exists_eq_left, Fl.rt.injEq, List.length_cons, List.length_nil, if_true, if_false, Bool.false_eq_true, true_and, and_true, Wd.d.injEq, PyData.bool.injEq, PyData.int.injEq, decide_eq_true_eq]
    refine take_ok hb3 (by decide) (by decide) fun v1 m4 a1 a2 hb4 f4 => ?_
    simp only [w_call, w_aC, w_aN, w_V, w_C, List.getElem?_cons_zero, List.getElem?_cons_succ, List.set_cons_zero, List.set_cons_succ, Option.some.injEq, exists_eq_left', exists_eq_left, Fl.rt.injEq, List.length_cons, List.length_nil, if_true, if_false, Bool.false_eq_true, true_and, and_true, Wd.d.injEq, PyData.bool.injEq, PyData.int.injEq, decide_eq_true_eq, o1_sub]
    refine take_ok hb4 (by decide) (by decide) fun v2 m5 a3 a4 hb5 f5 => ?_
    refine ⟨_, rfl, ?_⟩
    have hx5 : Wx m5 word xw := (hx3.fr hb3 f4).fr hb4 f5
    have hnd : ∀ m, Rd m (.d xn) xn := fun m => .d hxn'
    try simp only [List.getElem?_cons_zero, List.getElem?_cons_succ, List.set_cons_zero, List.set_cons_succ, Option.some.injEq, exists_eq_left', exists_eq_left, Fl.rt.injEq, List.length_cons, List.length_nil, if_true, if_false, Bool.false_eq_true, true_and, and_true, Wd.d.injEq, PyData.bool.injEq, PyData.int.injEq, decide_eq_true_eq]
    -- names and integers
    rw [w_seq]
    refine chk_ok ?_
    simp only [w_eN, w_aC, w_aN, w_call, w_V, List.getElem?_cons_zero, List.getElem?_cons_succ, List.set_cons_zero, List.set_cons_succ, Option.some.injEq, exists_eq_left', exists_eq_left, Fl.rt.injEq, List.length_cons, List.length_nil, if_true, if_false, Bool.false_eq_true, true_and, and_true, Wd.d.injEq, PyData.bool.injEq, PyData.int.injEq, decide_eq_true_eq]
    refine name_ok hx5.rd hx5.lim fun m6 f6 => ?_
    refine int_ok (hnd m6) fun m7 f7 => ?_
    rw [o1_lst]
    refine ⟨by show 2 ≤ 16777216; decide, ?_⟩
    have g8 : Has (m7.push (.lst [.d (.bool (nameD xw)), .d (.bool (isIntD xn))])) m7.cells.length (.lst [.d (.bool (nameD xw)), .d (.bool (isIntD xn))]) := has_push
    have f8 : Fr [] m7 (m7.push (.lst [.d (.bool (nameD xw)), .d (.bool (isIntD xn))])) := fr_push
    have hx8 := ((hx5.fr0 f6).fr0 f7).fr0 f8
    refine lname_ok hx8.rd hx8.lim fun m9 f9 => ?_
    refine lint_ok (hnd m9) fun m10 f10 => ?_
    rw [o1_lst]
    refine ⟨by show 2 ≤ 16777216; decide, ?_⟩
    have g11 : Has (m10.push (.lst [.d (.bool (nameD xw)), .d (.bool (isIntD xn))])) m10.cells.length (.lst [.d (.bool (nameD xw)), .d (.bool (isIntD xn))]) := has_push
    have f11 : Fr [] m10 (m10.push (.lst [.d (.bool (nameD xw)), .d (.bool (isIntD xn))])) := fr_push
    refine ⟨.list [.bool (nameD xw), .bool (isIntD xn)], .ref (f11.has (f10.has (f9.has g8))) (.cons (.d rfl) (.cons (.d rfl) .nil)), .ref g11 (.cons (.d rfl) (.cons (.d rfl) .nil)), by show 3 ≤ 16777216; decide, fun m12 f12 => ?_⟩
    have fA : Fr [] m5 m12 := ((((((f6.trans f7).trans f8).trans f9).trans f10).trans f11).trans f12)
    have hb12 := hb5.fr fA
    have hx12 := hx5.fr0 fA
    -- within
    rw [w_seq]
    refine chk_ok ?_
    simp only [w_aC, w_aN, w_call, w_V, List.getElem?_cons_zero, List.getElem?_cons_succ, List.set_cons_zero, List.set_cons_succ, Option.some.injEq, exists_eq_left', exists_eq_left, Fl.rt.injEq, List.length_cons, List.length_nil, if_true, if_false, Bool.false_eq_true, true_and, and_true, Wd.d.injEq, PyData.bool.injEq, PyData.int.injEq, decide_eq_true_eq]
    refine within_ok (hnd _) fun m13 f13 => ?_
    refine int_and_ok rfl rfl rfl hxn' fun m14 f14 => ?_
    refine ⟨.bool _, .d rfl, .d rfl, by show 1 ≤ 16777216; decide, fun m15 f15 => ?_⟩
    have fB : Fr [] m12 m15 := (f13.trans f14).trans f15
    have hb15 := hb12.fr fB
    -- a row of words
    rw [w_seq, w_set]
    refine row_ok rfl rfl hb15 fun row ds m16 hr hlen hlim hkeep hb16 f16 => ?_
    try simp only [List.getElem?_cons_zero, List.getElem?_cons_succ, List.set_cons_zero, List.set_cons_succ, Option.some.injEq, exists_eq_left', exists_eq_left, Fl.rt.injEq, List.length_cons, List.length_nil, if_true, if_false, Bool.false_eq_true, true_and, and_true, Wd.d.injEq, PyData.bool.injEq, PyData.int.injEq, decide_eq_true_eq]
    rw [w_seq, w_for]
    refine w_iter ?_
    obtain ⟨rws, hrt, hrr⟩ := rd_tupOf hr
    have hrl := hrr.length
    simp only [w_eN, w_aC, w_aN, w_V, w_C, w_e2, List.getElem?_cons_zero, List.getElem?_cons_succ, List.set_cons_zero, List.set_cons_succ, Option.some.injEq, exists_eq_left', exists_eq_left, Fl.rt.injEq, List.length_cons, List.length_nil, if_true, if_false, Bool.false_eq_true, true_and, and_true, Wd.d.injEq, PyData.bool.injEq, PyData.int.injEq, decide_eq_true_eq, o1_list (tupOf_seq (m := m16) hrt)]
    have f17 : Fr [] m16 (m16.push (.lst rws)) := fr_push
    rw [o1_catT hrt hrt (by show _ ≤ 16777216; omega)]
    simp only [o1_tup]
    refine ⟨by show 5 ≤ 16777216; decide, .inl ⟨_, tupOf_seq (tupOf_mk _), fun gd hgd => ?_⟩⟩
    have g17 : Has (m16.push (.lst rws)) m16.cells.length (.lst rws) := has_push
    have hrr2 := hrr.fr f17
    have hlimT : limD (.tuple ds) = true := by show (decide (ds.length ≤ 1000) && ds.all strLim) = true; rw [hlim, decide_eq_true (by omega)]; rfl
    have hlimL : limD (.list ds) = true := hlimT
    have happ : Rds (m16.push (.lst rws)) (rws ++ rws) (ds ++ ds) := rds_app hrr2 hrr2
    refine loop1 (fun w' hw' => ?_) hgd fun q8' q9' m18 f18 => ?_
    · have hw2 : w' = row ∨ w' = .ref m16.cells.length ∨ w' = .d .none ∨ w' = mkTup (rws ++ rws) ∨ w' = .d (.str "ab") := by simpa using hw'
      rcases hw2 with rfl | rfl | rfl | rfl | rfl
      · exact ⟨_, hr.fr f17, hlimT⟩
      · exact ⟨_, .ref g17 hrr2, hlimL⟩
      · exact ⟨_, .d rfl, rfl⟩
      · exact ⟨_, rd_tup happ, by show (decide ((ds ++ ds).length ≤ 1000) && (ds ++ ds).all strLim) = true; rw [List.all_append, hlim, decide_eq_true (by rw [List.length_append]; omega)]; rfl⟩
      · exact ⟨_, .d rfl, rfl⟩
    have hb18 := (hb16.fr f17).fr f18
    -- names
    rw [w_seq, w_set, w_sl]
    simp only [w_eN, w_aC, w_aN, w_C, w_oN, w_oS, w_e2, w_call, w_V, List.getElem?_cons_zero, List.getElem?_cons_succ, List.set_cons_zero, List.set_cons_succ, Option.some.injEq, exists_eq_left', exists_eq_left, Fl.rt.injEq, List.length_cons, List.length_nil, if_true, if_false, Bool.false_eq_true, true_and, and_true, Wd.d.injEq, PyData.bool.injEq, PyData.int.injEq, decide_eq_true_eq, o1_tup]
    refine ⟨by decide, ?_⟩
    refine take_ok hb18 (by decide) (by decide) fun v3 m19 a5 a6 hb19 f19 => ?_
    rw [o1_add]
    refine ⟨_, rfl, ?_⟩
    have en4 : mkTup [Wd.d (.str "ab"), .d (.str "q"), .d (.str "a"), .d (.str "zz")] = .d (.tuple (N4.map .str)) := rfl
    obtain ⟨k3, hk3, rfl⟩ : ∃ k : Nat, k < 4 ∧ v3 = (k : Int) := ⟨v3.toNat, by omega, by omega⟩
    have hcast : (1 : Int) + (k3 : Int) = ((k3 + 1 : Nat) : Int) := by omega
    rw [en4, o1_slT (show tupOf (.d (.tuple (N4.map .str))) = some ((N4.map .str).map .d) from rfl), hcast, cut_to, ← List.map_take, ← List.map_take, mkTup_map]
    have hnm := nms_take (k3 + 1) (by omega) (by omega)
    generalize N4.take (k3 + 1) = nms at hnm
    try simp only [List.getElem?_cons_zero, List.getElem?_cons_succ, List.set_cons_zero, List.set_cons_succ, Option.some.injEq, exists_eq_left', exists_eq_left, Fl.rt.injEq, List.length_cons, List.length_nil, if_true, if_false, Bool.false_eq_true, true_and, and_true, Wd.d.injEq, PyData.bool.injEq, PyData.int.injEq, decide_eq_true_eq]
    -- a row of these and others
    rw [w_seq, w_set]
    refine some_row_ok hnm rfl rfl rfl hb19 fun es m20 hes hel hb20 f20 => ?_
    try simp only [List.getElem?_cons_zero, List.getElem?_cons_succ, List.set_cons_zero, List.set_cons_succ, Option.some.injEq, exists_eq_left', exists_eq_left, Fl.rt.injEq, List.length_cons, List.length_nil, if_true, if_false, Bool.false_eq_true, true_and, and_true, Wd.d.injEq, PyData.bool.injEq, PyData.int.injEq, decide_eq_true_eq]
    rw [w_for]
    refine w_iter ?_
    have hnl := hnm.len
    have hnd6 : ∀ x ∈ nms.map PyData.str, x ∈ D6 := fun x hx => by
      obtain ⟨s, hs, rfl⟩ := List.mem_map.mp hx
      exact n4_d6 s (hnm.sub s hs)
    have hsq : ∀ m, seqOf m (.d (.tuple es)) = some (es.map .d) := fun _ => rfl
    have hsn : ∀ m, seqOf m (.d (.tuple (nms.map .str))) = some (nms.map fun s => Wd.d (.str s)) := fun _ => by
      show some ((nms.map PyData.str).map Wd.d) = _
      rw [List.map_map]; rfl
    simp only [w_eN, w_aC, w_aN, w_V, w_C, w_e2, w_sl, w_oN, w_oS, List.getElem?_cons_zero, List.getElem?_cons_succ, List.set_cons_zero, List.set_cons_succ, Option.some.injEq, exists_eq_left', exists_eq_left, Fl.rt.injEq, List.length_cons, List.length_nil, if_true, if_false, Bool.false_eq_true, true_and, and_true, Wd.d.injEq, PyData.bool.injEq, PyData.int.injEq, decide_eq_true_eq, o1_list (hsq _), o1_sortS (hsn _)]
    have f21 : Fr [] m20 (m20.push (.lst (es.map .d))) := fr_push
    have g21 : Has (m20.push (.lst (es.map .d))) m20.cells.length (.lst (es.map .d)) := has_push
    generalize m20.push (.lst (es.map .d)) = m21 at f21 g21
    have esrt : ((nms.mergeSort leS).map fun x => Wd.d (.str x)) = ((nms.mergeSort leS).map PyData.str).map Wd.d := by rw [List.map_map]; rfl
    rw [esrt, o1_tuple (s_ref has_push), mkTup_map]
    have f22 : Fr [] m21 (m21.push (.lst (((nms.mergeSort leS).map PyData.str).map .d))) := fr_push
    have g22 := f22.has g21
    generalize m21.push (.lst (((nms.mergeSort leS).map PyData.str).map .d)) = m22 at f22 g22
    simp only [o1_tup, show mkTup [] = Wd.d (.tuple []) from rfl]
    refine ⟨by show 0 ≤ 16777216; decide, ?_⟩
    have hone : ∀ m (Q : Wd → Mm → Prop), wpO (slO (.d (.tuple (nms.map .str))) none (some 1) m) Q ↔ Q (.d (.tuple ((nms.map .str).take 1))) m := fun m Q => by
      rw [o1_slT (show tupOf (.d (.tuple (nms.map .str))) = some ((nms.map .str).map .d) from rfl), show (1 : Int) = ((1 : Nat) : Int) from rfl, cut_to, ← List.map_take, mkTup_map]
    rw [hone, o1_catT (show tupOf (.d (.tuple (nms.map .str))) = some ((nms.map .str).map .d) from rfl) (show tupOf (.d (.tuple ((nms.map .str).take 1))) = some (((nms.map .str).take 1).map .d) from rfl) (by
      rw [List.length_map, List.length_map, List.length_map, List.length_take, List.length_map]; show _ ≤ 16777216; omega)]
    rw [← List.map_append, mkTup_map]
    refine ⟨by show 7 ≤ 16777216; decide, .inl ⟨_, tupOf_seq (tupOf_mk _), fun gd hgd => ?_⟩⟩
    have hsd6 : ∀ x ∈ (nms.mergeSort leS).map PyData.str, x ∈ D6 := fun x hx => by
      obtain ⟨s, hs, rfl⟩ := List.mem_map.mp hx
      exact n4_d6 s (hnm.sub s ((List.mergeSort_perm nms leS).mem_iff.mp hs))
    refine loop2 hnm (fun w' hw' => ?_) hgd fun q8'' q12' m23 f23 => ?_
    · have hw2 : w' = .d (.tuple es) ∨ w' = .ref m20.cells.length ∨ w' = .d (.tuple ((nms.mergeSort leS).map PyData.str)) ∨ w' = .d (.tuple (nms.map .str)) ∨ w' = .d (.tuple []) ∨ w' = .d .none ∨ w' = .d (.tuple (nms.map PyData.str ++ (nms.map PyData.str).take 1)) := by simpa using hw'
      rcases hw2 with rfl | rfl | rfl | rfl | rfl | rfl | rfl
      · exact ⟨_, .tup hes (by omega)⟩
      · exact ⟨_, .lst hes (by omega) g22⟩
      · exact ⟨_, .tup hsd6 (by rw [List.length_map, List.length_mergeSort]; omega)⟩
      · exact ⟨_, .tup hnd6 (by rw [List.length_map]; omega)⟩
      · exact ⟨_, .tup (by simp) (by simp)⟩
      · exact ⟨_, .non⟩
      · refine ⟨_, .tup (fun x hx => ?_) (by rw [List.length_append, List.length_take, List.length_map]; omega)⟩
        rcases List.mem_append.mp hx with q | q
        · exact hnd6 x q
        · exact hnd6 x (List.mem_of_mem_take q)
    exact ⟨((hb20.fr f21).fr f22).fr f23, _, _, _, _, _, _, _, _, _, _, _, _, _, rfl⟩
  · obtain ⟨hb, q2, q3, q4, q5, q6, q7, q8, q9, q10, q11, q12, q13, q14, rfl⟩ := hI
    simp only [w_ret, w_C]
    exact ⟨_, rfl, fun _ _ => rfl⟩
end K01
set_option Elab.async false
set_option linter.all false
set_option maxRecDepth 100000
set_option maxHeartbeats 0
namespace K01
open PySem PySem.Spec PyProof.Rows L2 DL Hn
def top (i : Nat) : Stmt := PySem.Challenge.pw_leastdoubt_k01_forms_of_any_values.main.body.getD i (.Pass ⟨0, 0, 0, 0⟩)
structure Mo (K : PySem.W.Frag) (mg : Str → Option Value) : Prop where
  b_abs : mg "abs" = none
  b_all : mg "all" = none
  b_bool : mg "bool" = none
  b_int : mg "int" = none
  b_isinstance : mg "isinstance" = none
  b_len : mg "len" = none
  b_list : mg "list" = none
  b_range : mg "range" = none
  b_sorted : mg "sorted" = none
  b_str : mg "str" = none
  b_tuple : mg "tuple" = none
  b_zip : mg "zip" = none
  c_LETTERS : Con K mg "LETTERS" d_LETTERS
  c_MOST_NAME : Con K mg "MOST_NAME" d_MOST_NAME
  c_RESERVED : Con K mg "RESERVED" d_RESERVED
abbrev s__law_bag : Stmt := top 13
abbrev s__law_take : Stmt := top 11
abbrev s__law_some : Stmt := top 12
abbrev s__law_word : Stmt := top 17
abbrev s__law_alike : Stmt := top 14
abbrev s_is_integer : Stmt := top 4
abbrev s_is_within : Stmt := top 5
abbrev s__law_are_unlike : Stmt := top 18
abbrev s_is_name : Stmt := top 6
abbrev s__law_is_name : Stmt := top 16
abbrev s__law_is_int : Stmt := top 15
abbrev s_are_names : Stmt := top 7
abbrev s_are_some_of : Stmt := top 8
abbrev s_is_lot : Stmt := top 9
abbrev s_law : Stmt := top 19
section
variable {P : Program} {w : World} {K : PySem.W.Frag} {mg : Str → Option Value} {base : Heap}
theorem sc__law_bag : FnScope ["script", "cell"] ["script"] (defScope s__law_bag) := ⟨rfl, rfl, rfl, by decide +kernel, rfl, by decide +kernel, by decide +kernel⟩
theorem ok__law_bag (M : Mo K mg) (D : Df K mg "_law_bag" s__law_bag) : Kn P w K mg base 1 1 "_law_bag" ["script"] N__law_bag := by
  have S := sc__law_bag
  unfold N__law_bag
  exact (k_fn D S rfl rfl (fun _ _ F => F.bindsN fun _ _ _ _ _ _ us hl => match us, hl with | [_], _ => rfl) fun f cdv A outer s H E hr tk hp =>
(ds_one (ds_ret (de_lst (da_cons de_int (da_cons de_int (da_cons de_int (da_cons (de_lc (own := [("cell", 1)]) rfl S.nd (di_val (de_sl (de_V (pv 0)) do_none (do_some de_int))) (blkOk_by (by rfl)) (fun _ _ _ _ _ => (pg_name S.nd (i := 1) rfl (Or.inl rfl))) gt_name rfl (fun _ _ _ _ _ => dts_nil) (fun _ _ _ _ _ => (de_callB o_abs rfl M.b_abs bt_abs (da_cons (de_V (pv 1)) da_nil)))) da_nil))))))))
theorem sc__law_take : FnScope ["bag", "many", "cell", "stirred", "value", "begin", "second"] ["bag", "many"] (defScope s__law_take) := ⟨rfl, rfl, rfl, by decide +kernel, rfl, by decide +kernel, by decide +kernel⟩
theorem ok__law_take (M : Mo K mg) (D : Df K mg "_law_take" s__law_take) : Kn P w K mg base 1 2 "_law_take" ["bag", "many"] N__law_take := by
  have S := sc__law_take
  unfold N__law_take
  exact (k_fn D S rfl rfl (fun _ _ F => F.bindsN fun _ _ _ _ _ _ us hl => match us, hl with | [_, _], _ => rfl) fun f cdv A outer s H E hr tk hp =>
(ds_seq (ds_if (dt_cmp (o_eq hr.units) (de_ix i_ix (de_V (pv 0)) de_int (fun _ _ => rfl)) de_int (nomark _))
(ds_seq (ds_set (ps_set (i := 2) S.nd rfl (Or.inl rfl) (de_ix i_ix (de_bin o_add (de_sl (de_ix i_ix (de_V (pv 0)) de_int (fun _ _ => rfl)) (do_some (de_ix i_ix (de_V (pv 0)) de_int (fun _ _ => rfl))) do_none) (de_lst (da_cons de_int da_nil))) de_int (fun _ _ => rfl)))) <|
(ds_seq (ds_augL a_add (de_V (pv 0)) de_int de_int) <|
(ds_seq (ds_if (dt_cmp o_ge (de_V (pv 2)) (de_bin o_pow de_int de_int) (nomark _))
(ds_one (ds_sub (de_V (pv 2)) (de_V (pv 0)) de_int))
ds_nil) <|
(ds_seq (ds_set (ps_set (i := 3) S.nd rfl (Or.inl rfl) (de_bin o_add (de_bin o_add (de_bin o_mul (de_ix i_ix (de_V (pv 0)) de_int (fun _ _ => rfl)) de_int) (de_bin o_mod (de_callT o_int1 rfl M.b_int bt_int (da_cons (de_V (pv 2)) da_nil)) de_int)) (de_bin o_mul de_int (de_ix i_ix (de_V (pv 0)) de_int (fun _ _ => rfl)))))) <|
(ds_one (ds_sub (de_bin o_mod (de_callT o_int1 rfl M.b_int bt_int (da_cons (de_V (pv 3)) da_nil)) de_int) (de_V (pv 0)) de_int))))))
ds_nil) <|
(ds_seq (ds_if (dt_cmp o_gt (de_ix i_ix (de_V (pv 0)) de_int (fun _ _ => rfl)) de_int (nomark _))
(ds_seq (ds_set (ps_set (i := 4) S.nd rfl (Or.inl rfl) (de_bin o_mod (de_callT o_int1 rfl M.b_int bt_int (da_cons (de_ix i_ix (de_V (pv 0)) de_int (fun _ _ => rfl)) da_nil)) (de_V (pv 1))))) <|
(ds_seq (ds_sub (de_bin o_fdiv (de_callT o_int1 rfl M.b_int bt_int (da_cons (de_ix i_ix (de_V (pv 0)) de_int (fun _ _ => rfl)) da_nil)) (de_V (pv 1))) (de_V (pv 0)) de_int) <|
(ds_one (ds_ret (de_V (pv 4))))))
ds_nil) <|
(ds_seq (ds_set (ps_set (i := 5) S.nd rfl (Or.inl rfl) (de_bin o_mod (de_callT o_int1 rfl M.b_int bt_int (da_cons (de_bin o_mul (de_bin o_add (de_ix i_ix (de_V (pv 0)) de_int (fun _ _ => rfl)) de_int) de_int) da_nil)) de_int))) <|
(ds_seq (ds_set (ps_set (i := 6) S.nd rfl (Or.inl rfl) (de_bin o_mod (de_callT o_int1 rfl M.b_int bt_int (da_cons (de_bin o_mul (de_bin o_mod (de_callT o_int1 rfl M.b_int bt_int (da_cons (de_bin o_mul (de_V (pv 5)) (de_V (pv 5))) da_nil)) de_int) de_int) da_nil)) de_int))) <|
(ds_one (ds_ret (de_bin o_mod (de_callT o_int1 rfl M.b_int bt_int (da_cons (de_bin o_fdiv (de_V (pv 6)) de_int) da_nil)) (de_V (pv 1))))))))))
theorem sc__law_some : FnScope ["bag", "things"] ["bag", "things"] (defScope s__law_some) := ⟨rfl, rfl, rfl, by decide +kernel, rfl, by decide +kernel, by decide +kernel⟩
theorem ok__law_some (M : Mo K mg) (D : Df K mg "_law_some" s__law_some) (C__law_take : Kn P w K mg base 1 2 "_law_take" ["bag", "many"] N__law_take) : Kn P w K mg base 2 2 "_law_some" ["bag", "things"] N__law_some := by
  have S := sc__law_some
  unfold N__law_some
  exact (k_fn D S rfl rfl (fun _ _ F => F.bindsN fun _ _ _ _ _ _ us hl => match us, hl with | [_, _], _ => rfl) fun f cdv A outer s H E hr tk hp =>
(ds_one (ds_ret (de_ix i_ix (de_V (pv 1)) (de_callK C__law_take tk hr (by decide) rfl (da_cons (de_V (pv 0)) (da_cons (de_callB c_len rfl M.b_len bt_len (da_cons (de_V (pv 1)) da_nil)) da_nil))) (fun _ _ => rfl)))))
theorem sc__law_word : FnScope ["bag", "some"] ["bag"] (defScope s__law_word) := ⟨rfl, rfl, rfl, by decide +kernel, rfl, by decide +kernel, by decide +kernel⟩
theorem ok__law_word (M : Mo K mg) (D : Df K mg "_law_word" s__law_word) (C__law_some : Kn P w K mg base 2 2 "_law_some" ["bag", "things"] N__law_some) : Kn P w K mg base 3 1 "_law_word" ["bag"] N__law_word := by
  have S := sc__law_word
  unfold N__law_word
  exact (k_fn D S rfl rfl (fun _ _ F => F.bindsN fun _ _ _ _ _ _ us hl => match us, hl with | [_], _ => rfl) fun f cdv A outer s H E hr tk hp =>
(ds_seq (ds_set (ps_set (i := 1) S.nd rfl (Or.inl rfl) (de_lst (da_cons de_str (da_cons de_str (da_cons de_str (da_cons de_str (da_cons de_str (da_cons de_str (da_cons de_str (da_cons de_str (da_cons de_str (da_cons de_str (da_cons de_str (da_cons de_str (da_cons de_str (da_cons de_str da_nil))))))))))))))))) <|
(ds_one (ds_ret (de_callK C__law_some tk hr (by decide) rfl (da_cons (de_V (pv 0)) (da_cons (de_bin o_add (de_V (pv 1)) (de_lst (da_cons de_str (da_cons de_str (da_cons de_str (da_cons de_str (da_cons de_str (da_cons de_str (da_cons de_str (da_cons de_none (da_cons de_int (da_cons de_bool (da_cons (de_tup (da_cons de_str da_nil)) (da_cons (de_lst (da_cons de_str da_nil)) da_nil)))))))))))))) da_nil)))))))
theorem sc__law_alike : FnScope ["found", "due", "pairs", "at", "one", "other"] ["found", "due"] (defScope s__law_alike) := ⟨rfl, rfl, rfl, by decide +kernel, rfl, by decide +kernel, by decide +kernel⟩
theorem ok__law_alike (M : Mo K mg) (D : Df K mg "_law_alike" s__law_alike) : Kn P w K mg base 1 2 "_law_alike" ["found", "due"] N__law_alike := by
  have S := sc__law_alike
  unfold N__law_alike
  exact (k_fn D S rfl rfl (fun _ _ F => F.bindsN fun _ _ _ _ _ _ us hl => match us, hl with | [_, _], _ => rfl) fun f cdv A outer s H E hr tk hp =>
(ds_seq (ds_par (ps_par (i := 2) (j := 3) rfl S.nd rfl rfl (by decide) rfl rfl (da_cons (de_lst (da_cons (de_tup (da_cons (de_V (pv 0)) (da_cons (de_V (pv 1)) da_nil))) da_nil)) (da_cons de_int da_nil)) (by with_unfolding_all rfl))) <|
(ds_seq (ds_while hp (dt_cmp o_lt (de_V (pv 3)) (de_callB c_len rfl M.b_len bt_len (da_cons (de_V (pv 2)) da_nil)) (nomark _))
(ds_seq (ds_asg (de_ix i_ix (de_V (pv 2)) (de_V (pv 3)) (fun _ _ => rfl)) (pg_tup rfl (pgs_cons (pg_name S.nd (i := 4) rfl (Or.inl rfl)) (pgs_cons (pg_name S.nd (i := 5) rfl (Or.inl rfl)) pgs_nil))) (gt_tup (gts_cons gt_name (gts_cons gt_name gts_nil)) rfl)) <|
(ds_seq (ds_aug (i := 3) a_add S.nd rfl (Or.inl rfl) de_int) <|
(ds_seq (ds_if (dt_pw (dw_or (dt_cmp (o_ne hr.units) (de_isi (T := "bool") (by decide) rfl M.b_isinstance rfl M.b_bool bt_bool (de_V (pv 4)) bt_isi) (de_isi (T := "bool") (by decide) rfl M.b_isinstance rfl M.b_bool bt_bool (de_V (pv 5)) bt_isi) (nomark _)) (dw_or1 (dt_cmp (o_ne hr.units) (de_isi (T := "str") (by decide) rfl M.b_isinstance rfl M.b_str bt_str (de_V (pv 4)) bt_isi) (de_isi (T := "str") (by decide) rfl M.b_isinstance rfl M.b_str bt_str (de_V (pv 5)) bt_isi) (nomark _)))))
(ds_one (ds_ret de_bool))
ds_nil) <|
(ds_seq (ds_if (dt_cmp (o_ne hr.units) (de_isi2 (T := "tuple") (U := "list") (by decide) (by decide) rfl M.b_isinstance rfl M.b_tuple bt_tuple rfl M.b_list bt_list (de_V (pv 4)) bt_isi) (de_isi2 (T := "tuple") (U := "list") (by decide) (by decide) rfl M.b_isinstance rfl M.b_tuple bt_tuple rfl M.b_list bt_list (de_V (pv 5)) bt_isi) (nomark _))
(ds_one (ds_ret de_bool))
ds_nil) <|
(ds_one (ds_if (dt_val (de_isi2 (T := "tuple") (U := "list") (by decide) (by decide) rfl M.b_isinstance rfl M.b_tuple bt_tuple rfl M.b_list bt_list (de_V (pv 4)) bt_isi))
(ds_seq (ds_if (dt_pw (dw_or (dt_cmp (o_ne hr.units) (de_isi (T := "tuple") (by decide) rfl M.b_isinstance rfl M.b_tuple bt_tuple (de_V (pv 4)) bt_isi) (de_isi (T := "tuple") (by decide) rfl M.b_isinstance rfl M.b_tuple bt_tuple (de_V (pv 5)) bt_isi) (nomark _)) (dw_or1 (dt_cmp (o_ne hr.units) (de_callB c_len rfl M.b_len bt_len (da_cons (de_V (pv 4)) da_nil)) (de_callB c_len rfl M.b_len bt_len (da_cons (de_V (pv 5)) da_nil)) (nomark _)))))
(ds_one (ds_ret de_bool))
ds_nil) <|
(ds_one (ds_expr (de_ext (de_V (pv 2)) (da_cons (de_lz rfl rfl M.b_list rfl M.b_zip (da_cons (de_V (pv 4)) (da_cons (de_V (pv 5)) da_nil))) da_nil)))))
(ds_one (ds_if (dt_cmp (o_ne hr.units) (de_V (pv 4)) (de_V (pv 5)) (nomark _))
(ds_one (ds_ret de_bool))
ds_nil))))))))) <|
(ds_one (ds_ret de_bool)))))
theorem sc_is_integer : FnScope ["thing"] ["thing"] (defScope s_is_integer) := ⟨rfl, rfl, rfl, by decide +kernel, rfl, by decide +kernel, by decide +kernel⟩
theorem ok_is_integer (M : Mo K mg) (D : Df K mg "is_integer" s_is_integer) : Kn P w K mg base 1 1 "is_integer" ["thing"] N_is_integer := by
  have S := sc_is_integer
  unfold N_is_integer
  exact (k_fn D S rfl rfl (fun _ _ F => F.bindsN fun _ _ _ _ _ _ us hl => match us, hl with | [_], _ => rfl) fun f cdv A outer s H E hr tk hp =>
(ds_one (ds_ret (de_and (de_isi (T := "int") (by decide) rfl M.b_isinstance rfl M.b_int bt_int (de_V (pv 0)) bt_isi) (de_one (de_not (de_isi (T := "bool") (by decide) rfl M.b_isinstance rfl M.b_bool bt_bool (de_V (pv 0)) bt_isi)))))))
theorem sc_is_within : FnScope ["thing", "least", "most"] ["thing", "least", "most"] (defScope s_is_within) := ⟨rfl, rfl, rfl, by decide +kernel, rfl, by decide +kernel, by decide +kernel⟩
theorem ok_is_within (M : Mo K mg) (D : Df K mg "is_within" s_is_within) (C_is_integer : Kn P w K mg base 1 1 "is_integer" ["thing"] N_is_integer) : Kn P w K mg base 2 3 "is_within" ["thing", "least", "most"] N_is_within := by
  have S := sc_is_within
  unfold N_is_within
  exact (k_fn D S rfl rfl (fun _ _ F => F.bindsN fun _ _ _ _ _ _ us hl => match us, hl with | [_, _, _], _ => rfl) fun f cdv A outer s H E hr tk hp =>
(ds_one (ds_ret (de_and (de_callK C_is_integer tk hr (by decide) rfl (da_cons (de_V (pv 0)) da_nil)) (de_one (de_chain o_le o_le (de_V (pv 1)) (de_V (pv 0)) (de_V (pv 2))))))))
theorem sc__law_are_unlike : FnScope ["things", "at"] ["things"] (defScope s__law_are_unlike) := ⟨rfl, rfl, rfl, by decide +kernel, rfl, by decide +kernel, by decide +kernel⟩
theorem ok__law_are_unlike (M : Mo K mg) (D : Df K mg "_law_are_unlike" s__law_are_unlike) : Kn P w K mg base 1 1 "_law_are_unlike" ["things"] N__law_are_unlike := by
  have S := sc__law_are_unlike
  unfold N__law_are_unlike
  exact (k_fn D S rfl rfl (fun _ _ F => F.bindsN fun _ _ _ _ _ _ us hl => match us, hl with | [_], _ => rfl) fun f cdv A outer s H E hr tk hp =>
(ds_one (ds_ret (de_cmp (o_eq hr.units) (de_lc (own := [("at", 1)]) rfl S.nd (di_ran1 rfl M.b_range (da_cons (de_callB c_len rfl M.b_len bt_len (da_cons (de_V (pv 0)) da_nil)) da_nil)) (blkOk_by (by rfl)) (fun _ _ _ _ _ => (pg_name S.nd (i := 1) rfl (Or.inl rfl))) gt_name rfl (fun _ _ _ _ _ => (dts_one (dt_cmp o_in (de_ix i_ix (de_V (pv 0)) (de_V (pv 1)) (fun _ _ => rfl)) (de_sl (de_V (pv 0)) do_none (do_some (de_V (pv 1)))) (by with_unfolding_all rfl)))) (fun _ _ _ _ _ => de_int)) (de_lst da_nil) (nomark _)))))
theorem sc_is_name : FnScope ["thing", "sign"] ["thing"] (defScope s_is_name) := ⟨rfl, rfl, rfl, by decide +kernel, rfl, by decide +kernel, by decide +kernel⟩
theorem ok_is_name (M : Mo K mg) (D : Df K mg "is_name" s_is_name) : Kn P w K mg base 1 1 "is_name" ["thing"] N_is_name := by
  have S := sc_is_name
  unfold N_is_name
  exact (k_fn D S rfl rfl (fun _ _ F => F.bindsN fun _ _ _ _ _ _ us hl => match us, hl with | [_], _ => rfl) fun f cdv A outer s H E hr tk hp =>
(ds_seq (ds_if (dt_pw (dw_or (dt_not (dt_val (de_isi (T := "str") (by decide) rfl M.b_isinstance rfl M.b_str bt_str (de_V (pv 0)) bt_isi))) (dw_or (dt_not (dt_chain o_le o_le de_int (de_callB c_len rfl M.b_len bt_len (da_cons (de_V (pv 0)) da_nil)) (de_K rfl M.c_MOST_NAME))) (dw_or1 (dt_cmp o_in (de_V (pv 0)) (de_K rfl M.c_RESERVED) (by with_unfolding_all rfl))))))
(ds_one (ds_ret de_bool))
ds_nil) <|
(ds_one (ds_ret (de_callB (o_all rfl) rfl M.b_all bt_all (da_cons (de_lc (own := [("sign", 1)]) rfl S.nd (di_val (de_V (pv 0))) (blkOk_by (by rfl)) (fun _ _ _ _ _ => (pg_name S.nd (i := 1) rfl (Or.inl rfl))) gt_name rfl (fun _ _ _ _ _ => dts_nil) (fun _ _ _ _ _ => (de_cmp o_in (de_V (pv 1)) (de_K rfl M.c_LETTERS) (by with_unfolding_all rfl)))) da_nil))))))
theorem sc__law_is_name : FnScope ["thing", "some", "sign"] ["thing"] (defScope s__law_is_name) := ⟨rfl, rfl, rfl, by decide +kernel, rfl, by decide +kernel, by decide +kernel⟩
theorem ok__law_is_name (M : Mo K mg) (D : Df K mg "_law_is_name" s__law_is_name) : Kn P w K mg base 1 1 "_law_is_name" ["thing"] N__law_is_name := by
  have S := sc__law_is_name
  unfold N__law_is_name
  exact (k_fn D S rfl rfl (fun _ _ F => F.bindsN fun _ _ _ _ _ _ us hl => match us, hl with | [_], _ => rfl) fun f cdv A outer s H E hr tk hp =>
(ds_seq (ds_set (ps_set (i := 1) S.nd rfl (Or.inl rfl) (de_tup (da_cons de_str (da_cons de_str (da_cons de_str (da_cons de_str (da_cons de_str (da_cons de_str (da_cons de_str (da_cons de_str (da_cons de_str (da_cons de_str (da_cons de_str da_nil)))))))))))))) <|
(ds_seq (ds_if (dt_pw (dw_or (dt_not (dt_val (de_isi (T := "str") (by decide) rfl M.b_isinstance rfl M.b_str bt_str (de_V (pv 0)) bt_isi))) (dw_or (dt_not (dt_chain o_le o_le de_int (de_callB c_len rfl M.b_len bt_len (da_cons (de_V (pv 0)) da_nil)) de_int)) (dw_or1 (dt_cmp o_in (de_V (pv 0)) (de_V (pv 1)) (by with_unfolding_all rfl))))))
(ds_one (ds_ret de_bool))
ds_nil) <|
(ds_one (ds_ret (de_cmp (o_eq hr.units) (de_lc (own := [("sign", 2)]) rfl S.nd (di_val (de_V (pv 0))) (blkOk_by (by rfl)) (fun _ _ _ _ _ => (pg_name S.nd (i := 2) rfl (Or.inl rfl))) gt_name rfl (fun _ _ _ _ _ => (dts_one (dt_cmp o_ni (de_V (pv 2)) de_str (by with_unfolding_all rfl)))) (fun _ _ _ _ _ => de_int)) (de_lst da_nil) (nomark _)))))))
theorem sc__law_is_int : FnScope ["thing"] ["thing"] (defScope s__law_is_int) := ⟨rfl, rfl, rfl, by decide +kernel, rfl, by decide +kernel, by decide +kernel⟩
theorem ok__law_is_int (M : Mo K mg) (D : Df K mg "_law_is_int" s__law_is_int) : Kn P w K mg base 1 1 "_law_is_int" ["thing"] N__law_is_int := by
  have S := sc__law_is_int
  unfold N__law_is_int
  exact (k_fn D S rfl rfl (fun _ _ F => F.bindsN fun _ _ _ _ _ _ us hl => match us, hl with | [_], _ => rfl) fun f cdv A outer s H E hr tk hp =>
(ds_one (ds_ret (de_and (de_isi (T := "int") (by decide) rfl M.b_isinstance rfl M.b_int bt_int (de_V (pv 0)) bt_isi) (de_one (de_not (de_isi (T := "bool") (by decide) rfl M.b_isinstance rfl M.b_bool bt_bool (de_V (pv 0)) bt_isi)))))))
theorem sc_are_names : FnScope ["thing", "least", "most", "one"] ["thing", "least", "most"] (defScope s_are_names) := ⟨rfl, rfl, rfl, by decide +kernel, rfl, by decide +kernel, by decide +kernel⟩
theorem ok_are_names (M : Mo K mg) (D : Df K mg "are_names" s_are_names) (C_is_name : Kn P w K mg base 1 1 "is_name" ["thing"] N_is_name) : Kn P w K mg base 2 3 "are_names" ["thing", "least", "most"] N_are_names := by
  have S := sc_are_names
  unfold N_are_names
  exact (k_fn D S rfl rfl (fun _ _ F => F.bindsN fun _ _ _ _ _ _ us hl => match us, hl with | [_, _, _], _ => rfl) fun f cdv A outer s H E hr tk hp =>
(ds_seq (ds_if (dt_pw (dw_or (dt_not (dt_val (de_isi (T := "tuple") (by decide) rfl M.b_isinstance rfl M.b_tuple bt_tuple (de_V (pv 0)) bt_isi))) (dw_or (dt_not (dt_chain o_le o_le (de_V (pv 1)) (de_callB c_len rfl M.b_len bt_len (da_cons (de_V (pv 0)) da_nil)) (de_V (pv 2)))) (dw_or1 (dt_not (dt_val (de_callB (o_all rfl) rfl M.b_all bt_all (da_cons (de_lc (own := [("one", 3)]) rfl S.nd (di_val (de_V (pv 0))) (blkOk_by (by rfl)) (fun _ _ _ _ _ => (pg_name S.nd (i := 3) rfl (Or.inl rfl))) gt_name rfl (fun _ _ _ _ _ => dts_nil) (fun _ _ _ _ _ => (de_callK C_is_name takes0 hr (by decide) rfl (da_cons (de_V (pv 3)) da_nil)))) da_nil))))))))
(ds_one (ds_ret de_bool))
ds_nil) <|
(ds_one (ds_ret (de_cmp (o_eq hr.units) (de_callB c_len rfl M.b_len bt_len (da_cons (de_dc (own := [("one", 3)]) rfl S.nd (di_val (de_V (pv 0))) (blkOk_by (by rfl)) (fun _ _ _ _ _ => (pg_name S.nd (i := 3) rfl (Or.inl rfl))) gt_name rfl (fun _ _ _ _ _ => dts_nil) (fun _ _ _ _ _ => (de_V (pv 3))) (fun _ _ _ _ _ => de_bool)) da_nil)) (de_callB c_len rfl M.b_len bt_len (da_cons (de_V (pv 0)) da_nil)) (nomark _))))))
theorem sc_are_some_of : FnScope ["thing", "names", "one"] ["thing", "names"] (defScope s_are_some_of) := ⟨rfl, rfl, rfl, by decide +kernel, rfl, by decide +kernel, by decide +kernel⟩
theorem ok_are_some_of (M : Mo K mg) (D : Df K mg "are_some_of" s_are_some_of) (C_are_names : Kn P w K mg base 2 3 "are_names" ["thing", "least", "most"] N_are_names) : Kn P w K mg base 3 2 "are_some_of" ["thing", "names"] N_are_some_of := by
  have S := sc_are_some_of
  unfold N_are_some_of
  exact (k_fn D S rfl rfl (fun _ _ F => F.bindsN fun _ _ _ _ _ _ us hl => match us, hl with | [_, _], _ => rfl) fun f cdv A outer s H E hr tk hp =>
(ds_one (ds_ret (de_and (de_callK C_are_names tk hr (by decide) rfl (da_cons (de_V (pv 0)) (da_cons de_int (da_cons (de_callB c_len rfl M.b_len bt_len (da_cons (de_V (pv 1)) da_nil)) da_nil)))) (de_one (de_callB (o_all rfl) rfl M.b_all bt_all (da_cons (de_lc (own := [("one", 2)]) rfl S.nd (di_val (de_V (pv 0))) (blkOk_by (by rfl)) (fun _ _ _ _ _ => (pg_name S.nd (i := 2) rfl (Or.inl rfl))) gt_name rfl (fun _ _ _ _ _ => dts_nil) (fun _ _ _ _ _ => (de_cmp o_in (de_V (pv 2)) (de_V (pv 1)) (by with_unfolding_all rfl)))) da_nil)))))))
theorem sc_is_lot : FnScope ["thing", "names"] ["thing", "names"] (defScope s_is_lot) := ⟨rfl, rfl, rfl, by decide +kernel, rfl, by decide +kernel, by decide +kernel⟩
theorem ok_is_lot (M : Mo K mg) (D : Df K mg "is_lot" s_is_lot) (C_are_some_of : Kn P w K mg base 3 2 "are_some_of" ["thing", "names"] N_are_some_of) : Kn P w K mg base 4 2 "is_lot" ["thing", "names"] N_is_lot := by
  have S := sc_is_lot
  unfold N_is_lot
  exact (k_fn D S rfl rfl (fun _ _ F => F.bindsN fun _ _ _ _ _ _ us hl => match us, hl with | [_, _], _ => rfl) fun f cdv A outer s H E hr tk hp =>
(ds_one (ds_ret (de_or (de_cmp (o_eq hr.units) (de_V (pv 0)) (de_tup da_nil) (nomark _)) (de_one (de_and (de_callK C_are_some_of tk hr (by decide) rfl (da_cons (de_V (pv 0)) (da_cons (de_V (pv 1)) da_nil))) (de_one (de_cmp (o_eq hr.units) (de_callT o_list rfl M.b_list bt_list (da_cons (de_V (pv 0)) da_nil)) (de_callB o_sorted rfl M.b_sorted bt_sorted (da_cons (de_V (pv 0)) da_nil)) (nomark _)))))))))
theorem sc_law : FnScope ["script", "bag", "turn", "word", "number", "least", "most", "row", "thing", "due", "names", "some", "unlike", "at", "one"] ["script"] (defScope s_law) := ⟨rfl, rfl, rfl, by decide +kernel, rfl, by decide +kernel, by decide +kernel⟩
theorem fo_law {f : Addr} {fd : FuncData} (M : Mo K mg) (F : FunD K "law" "law" (defArgs s_law) (defBody s_law) (defScope s_law) [] [] f fd) (C__law_bag : Kn P w K mg base 1 1 "_law_bag" ["script"] N__law_bag) (C__law_word : Kn P w K mg base 3 1 "_law_word" ["bag"] N__law_word) (C__law_some : Kn P w K mg base 2 2 "_law_some" ["bag", "things"] N__law_some) (C__law_take : Kn P w K mg base 1 2 "_law_take" ["bag", "many"] N__law_take) (C__law_alike : Kn P w K mg base 1 2 "_law_alike" ["found", "due"] N__law_alike) (C_is_within : Kn P w K mg base 2 3 "is_within" ["thing", "least", "most"] N_is_within) (C__law_are_unlike : Kn P w K mg base 1 1 "_law_are_unlike" ["things"] N__law_are_unlike) (C_is_name : Kn P w K mg base 1 1 "is_name" ["thing"] N_is_name) (C_is_integer : Kn P w K mg base 1 1 "is_integer" ["thing"] N_is_integer) (C__law_is_name : Kn P w K mg base 1 1 "_law_is_name" ["thing"] N__law_is_name) (C__law_is_int : Kn P w K mg base 1 1 "_law_is_int" ["thing"] N__law_is_int) (C_are_names : Kn P w K mg base 2 3 "are_names" ["thing", "least", "most"] N_are_names) (C_are_some_of : Kn P w K mg base 3 2 "are_some_of" ["thing", "names"] N_are_some_of) (C_is_lot : Kn P w K mg base 4 2 "is_lot" ["thing", "names"] N_is_lot) : FnOk P w K mg base (L2.CX P w) 5 f fd ["script"] (spD K 1 N_law) := by
  have S := sc_law
  unfold N_law
  exact (d_fn F S rfl rfl fun cdv A outer s H E hr tk hp =>
(ds_seq (ds_set (ps_set (i := 1) S.nd rfl (Or.inr rfl) (de_callK C__law_bag tk hr (by decide) rfl (da_cons (de_V (pv 0)) da_nil)))) <|
(ds_seq (ds_for hp rfl (di_ran1 rfl M.b_range (da_cons de_int da_nil)) (pg_name S.nd (i := 2) rfl (Or.inl rfl)) gt_name
(ds_seq (ds_par (ps_par (i := 3) (j := 4) rfl S.nd rfl rfl (by decide) rfl rfl (da_cons (de_callK C__law_word tk hr (by decide) rfl (da_cons (de_V (pv 1)) da_nil)) (da_cons (de_callK C__law_some tk hr (by decide) rfl (da_cons (de_V (pv 1)) (da_cons (de_lst (da_cons de_int (da_cons de_int (da_cons (de_un o_neg de_int) (da_cons de_int (da_cons de_bool (da_cons de_bool (da_cons de_none (da_cons de_str (da_cons (de_bin o_pow de_int de_int) (da_cons (de_tup (da_cons de_int da_nil)) da_nil))))))))))) da_nil))) da_nil)) (by with_unfolding_all rfl))) <|
(ds_seq (ds_par (ps_par (i := 5) (j := 6) rfl S.nd rfl rfl (by decide) rfl rfl (da_cons (de_bin o_sub (de_callK C__law_take tk hr (by decide) rfl (da_cons (de_V (pv 1)) (da_cons de_int da_nil))) de_int) (da_cons (de_callK C__law_take tk hr (by decide) rfl (da_cons (de_V (pv 1)) (da_cons de_int da_nil))) da_nil)) (by with_unfolding_all rfl))) <|
(ds_seq (ds_if (dt_not (dt_val (de_callK C__law_alike tk hr (by decide) rfl (da_cons (de_lst (da_cons (de_callK C_is_name tk hr (by decide) rfl (da_cons (de_V (pv 3)) da_nil)) (da_cons (de_callK C_is_integer tk hr (by decide) rfl (da_cons (de_V (pv 4)) da_nil)) da_nil))) (da_cons (de_lst (da_cons (de_callK C__law_is_name tk hr (by decide) rfl (da_cons (de_V (pv 3)) da_nil)) (da_cons (de_callK C__law_is_int tk hr (by decide) rfl (da_cons (de_V (pv 4)) da_nil)) da_nil))) da_nil)))))
(ds_one (ds_ret de_bool))
ds_nil) <|
(ds_seq (ds_if (dt_not (dt_val (de_callK C__law_alike tk hr (by decide) rfl (da_cons (de_callK C_is_within tk hr (by decide) rfl (da_cons (de_V (pv 4)) (da_cons (de_V (pv 5)) (da_cons (de_V (pv 6)) da_nil)))) (da_cons (de_and (de_callK C__law_is_int tk hr (by decide) rfl (da_cons (de_V (pv 4)) da_nil)) (de_one (de_chain o_le o_le (de_V (pv 5)) (de_V (pv 4)) (de_V (pv 6))))) da_nil)))))
(ds_one (ds_ret de_bool))
ds_nil) <|
(ds_seq (ds_set (ps_set (i := 7) S.nd rfl (Or.inl rfl) (de_callT o_tuple rfl M.b_tuple bt_tuple (da_cons (de_lc (own := [("at", 13)]) rfl S.nd (di_ran1 rfl M.b_range (da_cons (de_callK C__law_take tk hr (by decide) rfl (da_cons (de_V (pv 1)) (da_cons de_int da_nil))) da_nil)) (blkOk_by (by rfl)) (fun _ _ _ _ _ => (pg_name S.nd (i := 13) rfl (Or.inl rfl))) gt_name rfl (fun _ _ _ _ _ => dts_nil) (fun _ _ _ _ _ => (de_callK C__law_word takes0 hr (by decide) rfl (da_cons (de_V (pv 1)) da_nil)))) da_nil)))) <|
(ds_seq (ds_for hp rfl (di_val (de_tup (da_cons (de_V (pv 7)) (da_cons (de_callT o_list rfl M.b_list bt_list (da_cons (de_V (pv 7)) da_nil)) (da_cons de_none (da_cons (de_bin o_add (de_V (pv 7)) (de_V (pv 7))) (da_cons de_str da_nil))))))) (pg_name S.nd (i := 8) rfl (Or.inl rfl)) gt_name
(ds_seq (ds_set (ps_set (i := 9) S.nd rfl (Or.inl rfl) (de_and (de_isi (T := "tuple") (by decide) rfl M.b_isinstance rfl M.b_tuple bt_tuple (de_V (pv 8)) bt_isi) (de_one (de_cmp (o_eq hr.units) (de_lc (own := [("one", 14)]) rfl S.nd (di_val (de_V (pv 8))) (blkOk_by (by rfl)) (fun _ _ _ _ _ => (pg_name S.nd (i := 14) rfl (Or.inl rfl))) gt_name rfl (fun _ _ _ _ _ => (dts_one (dt_not (dt_val (de_callK C__law_is_name takes0 hr (by decide) rfl (da_cons (de_V (pv 14)) da_nil)))))) (fun _ _ _ _ _ => de_int)) (de_lst da_nil) (nomark _)))))) <|
(ds_seq (ds_set (ps_set (i := 9) S.nd rfl (Or.inl rfl) (de_and (de_V (pv 9)) (de_and (de_callK C__law_are_unlike tk hr (by decide) rfl (da_cons (de_V (pv 8)) da_nil)) (de_one (de_chain o_le o_le (de_V (pv 5)) (de_callB c_len rfl M.b_len bt_len (da_cons (de_V (pv 8)) da_nil)) (de_V (pv 6)))))))) <|
(ds_one (ds_if (dt_not (dt_val (de_callK C__law_alike tk hr (by decide) rfl (da_cons (de_callK C_are_names tk hr (by decide) rfl (da_cons (de_V (pv 8)) (da_cons (de_V (pv 5)) (da_cons (de_V (pv 6)) da_nil)))) (da_cons (de_V (pv 9)) da_nil)))))
(ds_one (ds_ret de_bool))
ds_nil))))) <|
(ds_seq (ds_set (ps_set (i := 10) S.nd rfl (Or.inr rfl) (de_sl (de_tup (da_cons de_str (da_cons de_str (da_cons de_str (da_cons de_str da_nil))))) do_none (do_some (de_bin o_add de_int (de_callK C__law_take tk hr (by decide) rfl (da_cons (de_V (pv 1)) (da_cons de_int da_nil)))))))) <|
(ds_seq (ds_set (ps_set (i := 11) S.nd rfl (Or.inl rfl) (de_callT o_tuple rfl M.b_tuple bt_tuple (da_cons (de_lc (own := [("at", 13)]) rfl S.nd (di_ran1 rfl M.b_range (da_cons (de_callK C__law_take tk hr (by decide) rfl (da_cons (de_V (pv 1)) (da_cons de_int da_nil))) da_nil)) (blkOk_by (by rfl)) (fun _ _ _ _ _ => (pg_name S.nd (i := 13) rfl (Or.inl rfl))) gt_name rfl (fun _ _ _ _ _ => dts_nil) (fun _ _ _ _ _ => (de_callK C__law_some takes0 hr (by decide) rfl (da_cons (de_V (pv 1)) (da_cons (de_bin o_add (de_callT o_list rfl M.b_list bt_list (da_cons (de_V (pv 10)) da_nil)) (de_lst (da_cons de_none (da_cons de_str da_nil)))) da_nil))))) da_nil)))) <|
(ds_one (ds_for hp rfl (di_val (de_tup (da_cons (de_V (pv 11)) (da_cons (de_callT o_list rfl M.b_list bt_list (da_cons (de_V (pv 11)) da_nil)) (da_cons (de_callT o_tuple rfl M.b_tuple bt_tuple (da_cons (de_callB o_sorted rfl M.b_sorted bt_sorted (da_cons (de_V (pv 10)) da_nil)) da_nil)) (da_cons (de_V (pv 10)) (da_cons (de_tup da_nil) (da_cons de_none (da_cons (de_bin o_add (de_V (pv 10)) (de_sl (de_V (pv 10)) do_none (do_some de_int))) da_nil))))))))) (pg_name S.nd (i := 8) rfl (Or.inl rfl)) gt_name
(ds_seq (ds_set (ps_set (i := 12) S.nd rfl (Or.inl rfl) (de_and (de_isi (T := "tuple") (by decide) rfl M.b_isinstance rfl M.b_tuple bt_tuple (de_V (pv 8)) bt_isi) (de_and (de_cmp (o_eq hr.units) (de_lc (own := [("one", 14)]) rfl S.nd (di_val (de_V (pv 8))) (blkOk_by (by rfl)) (fun _ _ _ _ _ => (pg_name S.nd (i := 14) rfl (Or.inl rfl))) gt_name rfl (fun _ _ _ _ _ => (dts_one (dt_cmp o_ni (de_V (pv 14)) (de_V (pv 10)) (by with_unfolding_all rfl)))) (fun _ _ _ _ _ => de_int)) (de_lst da_nil) (nomark _)) (de_one (de_callK C__law_are_unlike tk hr (by decide) rfl (da_cons (de_V (pv 8)) da_nil))))))) <|
(ds_seq (ds_if (dt_not (dt_val (de_callK C__law_alike tk hr (by decide) rfl (da_cons (de_callK C_are_some_of tk hr (by decide) rfl (da_cons (de_V (pv 8)) (da_cons (de_V (pv 10)) da_nil))) (da_cons (de_and (de_V (pv 12)) (de_one (de_cmp (o_ne hr.units) (de_V (pv 8)) (de_tup da_nil) (nomark _)))) da_nil)))))
(ds_one (ds_ret de_bool))
ds_nil) <|
(ds_one (ds_if (dt_not (dt_val (de_callK C__law_alike tk hr (by decide) rfl (da_cons (de_callK C_is_lot tk hr (by decide) rfl (da_cons (de_V (pv 8)) (da_cons (de_V (pv 10)) da_nil))) (da_cons (de_and (de_V (pv 12)) (de_one (de_cmp (o_eq hr.units) (de_callT o_list rfl M.b_list bt_list (da_cons (de_V (pv 8)) da_nil)) (de_callB o_sorted rfl M.b_sorted bt_sorted (da_cons (de_V (pv 8)) da_nil)) (nomark _)))) da_nil)))))
(ds_one (ds_ret de_bool))
ds_nil))))))))))))))) <|
(ds_one (ds_ret de_bool)))))
end
def dd__law_bag : He.DefD := ⟨("_law_bag", none), "_law_bag", "_law_bag", defArgs s__law_bag, defBody s__law_bag, defScope s__law_bag, [], []⟩
def dd__law_take : He.DefD := ⟨("_law_take", none), "_law_take", "_law_take", defArgs s__law_take, defBody s__law_take, defScope s__law_take, [], []⟩
def dd__law_some : He.DefD := ⟨("_law_some", none), "_law_some", "_law_some", defArgs s__law_some, defBody s__law_some, defScope s__law_some, [], []⟩
def dd__law_word : He.DefD := ⟨("_law_word", none), "_law_word", "_law_word", defArgs s__law_word, defBody s__law_word, defScope s__law_word, [], []⟩
def dd__law_alike : He.DefD := ⟨("_law_alike", none), "_law_alike", "_law_alike", defArgs s__law_alike, defBody s__law_alike, defScope s__law_alike, [], []⟩
def dd_is_integer : He.DefD := ⟨("is_integer", none), "is_integer", "is_integer", defArgs s_is_integer, defBody s_is_integer, defScope s_is_integer, [], []⟩
def dd_is_within : He.DefD := ⟨("is_within", none), "is_within", "is_within", defArgs s_is_within, defBody s_is_within, defScope s_is_within, [], []⟩
def dd__law_are_unlike : He.DefD := ⟨("_law_are_unlike", none), "_law_are_unlike", "_law_are_unlike", defArgs s__law_are_unlike, defBody s__law_are_unlike, defScope s__law_are_unlike, [], []⟩
def dd_is_name : He.DefD := ⟨("is_name", none), "is_name", "is_name", defArgs s_is_name, defBody s_is_name, defScope s_is_name, [], []⟩
def dd__law_is_name : He.DefD := ⟨("_law_is_name", none), "_law_is_name", "_law_is_name", defArgs s__law_is_name, defBody s__law_is_name, defScope s__law_is_name, [], []⟩
def dd__law_is_int : He.DefD := ⟨("_law_is_int", none), "_law_is_int", "_law_is_int", defArgs s__law_is_int, defBody s__law_is_int, defScope s__law_is_int, [], []⟩
def dd_are_names : He.DefD := ⟨("are_names", none), "are_names", "are_names", defArgs s_are_names, defBody s_are_names, defScope s_are_names, [], []⟩
def dd_are_some_of : He.DefD := ⟨("are_some_of", none), "are_some_of", "are_some_of", defArgs s_are_some_of, defBody s_are_some_of, defScope s_are_some_of, [], []⟩
def dd_is_lot : He.DefD := ⟨("is_lot", none), "is_lot", "is_lot", defArgs s_is_lot, defBody s_is_lot, defScope s_is_lot, [], []⟩
def dd_law : He.DefD := ⟨("law", none), "law", "law", defArgs s_law, defBody s_law, defScope s_law, [], []⟩
def fnl : List He.DefD := [dd__law_bag, dd__law_take, dd__law_some, dd__law_word, dd__law_alike, dd_is_integer, dd_is_within, dd__law_are_unlike, dd_is_name, dd__law_is_name, dd__law_is_int, dd_are_names, dd_are_some_of, dd_is_lot, dd_law]
def fal : List He.Fa := [.glo "_law_bag", .glo "_law_take", .glo "_law_some", .glo "_law_word", .glo "_law_alike", .glo "is_integer", .glo "is_within", .glo "_law_are_unlike", .glo "is_name", .glo "_law_is_name", .glo "_law_is_int", .glo "are_names", .glo "are_some_of", .glo "is_lot", .glo "law", .free "abs", .free "all", .free "bool", .free "int", .free "isinstance", .free "len", .free "list", .free "range", .free "sorted", .free "str", .free "tuple", .free "zip"]
def csl : List (Str × PyData) := [("LETTERS", d_LETTERS), ("MOST_NAME", d_MOST_NAME), ("RESERVED", d_RESERVED)]
theorem mo_of {K : PySem.W.Frag} {h : Heap} {mg : Str → Option Value} {ex : PySem.W.Frag → Bool} (X : K.In h) (G : h.Ns mainGlobals mg) (c : SaysQ fal fnl csl ex K) : Mo K mg :=
  ⟨He.free_ok X G (c.d.fact 15 (f := .free "abs") rfl), He.free_ok X G (c.d.fact 16 (f := .free "all") rfl), He.free_ok X G (c.d.fact 17 (f := .free "bool") rfl), He.free_ok X G (c.d.fact 18 (f := .free "int") rfl), He.free_ok X G (c.d.fact 19 (f := .free "isinstance") rfl), He.free_ok X G (c.d.fact 20 (f := .free "len") rfl), He.free_ok X G (c.d.fact 21 (f := .free "list") rfl), He.free_ok X G (c.d.fact 22 (f := .free "range") rfl), He.free_ok X G (c.d.fact 23 (f := .free "sorted") rfl), He.free_ok X G (c.d.fact 24 (f := .free "str") rfl), He.free_ok X G (c.d.fact 25 (f := .free "tuple") rfl), He.free_ok X G (c.d.fact 26 (f := .free "zip") rfl), SaysQ.con X G c 0 (x := "LETTERS") (d := d_LETTERS), SaysQ.con X G c 1 (x := "MOST_NAME") (d := d_MOST_NAME), SaysQ.con X G c 2 (x := "RESERVED") (d := d_RESERVED)⟩
theorem df__law_bag {K : PySem.W.Frag} {h : Heap} {mg : Str → Option Value} {ex : PySem.W.Frag → Bool} (X : K.In h) (G : h.Ns mainGlobals mg) (c : SaysQ fal fnl csl ex K) : Df K mg "_law_bag" s__law_bag := by
  obtain ⟨fd, F⟩ := c.d.def_ 0 (d := dd__law_bag) rfl
  exact ⟨_, fd, He.glo_ok X G (c.d.fact 0 (f := .glo "_law_bag") rfl), F⟩
theorem df__law_take {K : PySem.W.Frag} {h : Heap} {mg : Str → Option Value} {ex : PySem.W.Frag → Bool} (X : K.In h) (G : h.Ns mainGlobals mg) (c : SaysQ fal fnl csl ex K) : Df K mg "_law_take" s__law_take := by
  obtain ⟨fd, F⟩ := c.d.def_ 1 (d := dd__law_take) rfl
  exact ⟨_, fd, He.glo_ok X G (c.d.fact 1 (f := .glo "_law_take") rfl), F⟩
theorem df__law_some {K : PySem.W.Frag} {h : Heap} {mg : Str → Option Value} {ex : PySem.W.Frag → Bool} (X : K.In h) (G : h.Ns mainGlobals mg) (c : SaysQ fal fnl csl ex K) : Df K mg "_law_some" s__law_some := by
  obtain ⟨fd, F⟩ := c.d.def_ 2 (d := dd__law_some) rfl
  exact ⟨_, fd, He.glo_ok X G (c.d.fact 2 (f := .glo "_law_some") rfl), F⟩
theorem df__law_word {K : PySem.W.Frag} {h : Heap} {mg : Str → Option Value} {ex : PySem.W.Frag → Bool} (X : K.In h) (G : h.Ns mainGlobals mg) (c : SaysQ fal fnl csl ex K) : Df K mg "_law_word" s__law_word := by
  obtain ⟨fd, F⟩ := c.d.def_ 3 (d := dd__law_word) rfl
  exact ⟨_, fd, He.glo_ok X G (c.d.fact 3 (f := .glo "_law_word") rfl), F⟩
theorem df__law_alike {K : PySem.W.Frag} {h : Heap} {mg : Str → Option Value} {ex : PySem.W.Frag → Bool} (X : K.In h) (G : h.Ns mainGlobals mg) (c : SaysQ fal fnl csl ex K) : Df K mg "_law_alike" s__law_alike := by
  obtain ⟨fd, F⟩ := c.d.def_ 4 (d := dd__law_alike) rfl
  exact ⟨_, fd, He.glo_ok X G (c.d.fact 4 (f := .glo "_law_alike") rfl), F⟩
theorem df_is_integer {K : PySem.W.Frag} {h : Heap} {mg : Str → Option Value} {ex : PySem.W.Frag → Bool} (X : K.In h) (G : h.Ns mainGlobals mg) (c : SaysQ fal fnl csl ex K) : Df K mg "is_integer" s_is_integer := by
  obtain ⟨fd, F⟩ := c.d.def_ 5 (d := dd_is_integer) rfl
  exact ⟨_, fd, He.glo_ok X G (c.d.fact 5 (f := .glo "is_integer") rfl), F⟩
theorem df_is_within {K : PySem.W.Frag} {h : Heap} {mg : Str → Option Value} {ex : PySem.W.Frag → Bool} (X : K.In h) (G : h.Ns mainGlobals mg) (c : SaysQ fal fnl csl ex K) : Df K mg "is_within" s_is_within := by
  obtain ⟨fd, F⟩ := c.d.def_ 6 (d := dd_is_within) rfl
  exact ⟨_, fd, He.glo_ok X G (c.d.fact 6 (f := .glo "is_within") rfl), F⟩
theorem df__law_are_unlike {K : PySem.W.Frag} {h : Heap} {mg : Str → Option Value} {ex : PySem.W.Frag → Bool} (X : K.In h) (G : h.Ns mainGlobals mg) (c : SaysQ fal fnl csl ex K) : Df K mg "_law_are_unlike" s__law_are_unlike := by
  obtain ⟨fd, F⟩ := c.d.def_ 7 (d := dd__law_are_unlike) rfl
  exact ⟨_, fd, He.glo_ok X G (c.d.fact 7 (f := .glo "_law_are_unlike") rfl), F⟩
theorem df_is_name {K : PySem.W.Frag} {h : Heap} {mg : Str → Option Value} {ex : PySem.W.Frag → Bool} (X : K.In h) (G : h.Ns mainGlobals mg) (c : SaysQ fal fnl csl ex K) : Df K mg "is_name" s_is_name := by
  obtain ⟨fd, F⟩ := c.d.def_ 8 (d := dd_is_name) rfl
  exact ⟨_, fd, He.glo_ok X G (c.d.fact 8 (f := .glo "is_name") rfl), F⟩
theorem df__law_is_name {K : PySem.W.Frag} {h : Heap} {mg : Str → Option Value} {ex : PySem.W.Frag → Bool} (X : K.In h) (G : h.Ns mainGlobals mg) (c : SaysQ fal fnl csl ex K) : Df K mg "_law_is_name" s__law_is_name := by
  obtain ⟨fd, F⟩ := c.d.def_ 9 (d := dd__law_is_name) rfl
  exact ⟨_, fd, He.glo_ok X G (c.d.fact 9 (f := .glo "_law_is_name") rfl), F⟩
theorem df__law_is_int {K : PySem.W.Frag} {h : Heap} {mg : Str → Option Value} {ex : PySem.W.Frag → Bool} (X : K.In h) (G : h.Ns mainGlobals mg) (c : SaysQ fal fnl csl ex K) : Df K mg "_law_is_int" s__law_is_int := by
  obtain ⟨fd, F⟩ := c.d.def_ 10 (d := dd__law_is_int) rfl
  exact ⟨_, fd, He.glo_ok X G (c.d.fact 10 (f := .glo "_law_is_int") rfl), F⟩
theorem df_are_names {K : PySem.W.Frag} {h : Heap} {mg : Str → Option Value} {ex : PySem.W.Frag → Bool} (X : K.In h) (G : h.Ns mainGlobals mg) (c : SaysQ fal fnl csl ex K) : Df K mg "are_names" s_are_names := by
  obtain ⟨fd, F⟩ := c.d.def_ 11 (d := dd_are_names) rfl
  exact ⟨_, fd, He.glo_ok X G (c.d.fact 11 (f := .glo "are_names") rfl), F⟩
theorem df_are_some_of {K : PySem.W.Frag} {h : Heap} {mg : Str → Option Value} {ex : PySem.W.Frag → Bool} (X : K.In h) (G : h.Ns mainGlobals mg) (c : SaysQ fal fnl csl ex K) : Df K mg "are_some_of" s_are_some_of := by
  obtain ⟨fd, F⟩ := c.d.def_ 12 (d := dd_are_some_of) rfl
  exact ⟨_, fd, He.glo_ok X G (c.d.fact 12 (f := .glo "are_some_of") rfl), F⟩
theorem df_is_lot {K : PySem.W.Frag} {h : Heap} {mg : Str → Option Value} {ex : PySem.W.Frag → Bool} (X : K.In h) (G : h.Ns mainGlobals mg) (c : SaysQ fal fnl csl ex K) : Df K mg "is_lot" s_is_lot := by
  obtain ⟨fd, F⟩ := c.d.def_ 13 (d := dd_is_lot) rfl
  exact ⟨_, fd, He.glo_ok X G (c.d.fact 13 (f := .glo "is_lot") rfl), F⟩
theorem df_law {K : PySem.W.Frag} {h : Heap} {mg : Str → Option Value} {ex : PySem.W.Frag → Bool} (X : K.In h) (G : h.Ns mainGlobals mg) (c : SaysQ fal fnl csl ex K) : Df K mg "law" s_law := by
  obtain ⟨fd, F⟩ := c.d.def_ 14 (d := dd_law) rfl
  exact ⟨_, fd, He.glo_ok X G (c.d.fact 14 (f := .glo "law") rfl), F⟩
end K01
set_option Elab.async false
set_option linter.all false
set_option maxRecDepth 100000
set_option maxHeartbeats 0
namespace K01
open PySem PySem.Spec PyProof.Rows L2 DL
abbrev RR : PySem.W.OpenRow := PySem.W.OpenLaw.row PySem.Challenge.rw_leastdoubt_k01_forms_of_any_values
abbrev hk : PySem.W.Hook := hookQ 5 fal fnl csl (fun _ => true)
def ob (s : PySem.W.SharedT) : AlQ := obsQ 5 fal fnl csl (fun _ => true) (HandSHeadRun.getT s)
theorem ob_eq (s : PySem.W.SharedT) : ob s = hk.obs s.abs := obsQ_eq (HandSHeadRun.getT_eq s)
def loose0 : List Str := ["LETTERS", "RESERVED", "MOST_NAME", "is_integer", "is_within", "is_name", "are_names", "are_some_of", "is_lot", "_law_take", "_law_some", "_law_bag", "_law_alike", "_law_is_int", "_law_is_name", "_law_word", "_law_are_unlike"]
theorem run (w : World) : HandSHeadRun.RunEq RR (PySem.W.view RR.prog [19]) hk ob 4000 (loose0) w := by
  intro os
  kernel_rfl
theorem facts {P : Program} {w : World} {K : PySem.W.Frag} {h : Heap} {mg : Str → Option Value} {f : Addr} (X : K.In h) (G : h.Ns mainGlobals mg) (hfa : mg ("law" : Str) = some (.ref f)) (c : SaysQ fal fnl csl (fun _ => true) K) :
    ∃ fd : FuncData, (∀ (s : Shared) (v : Value), BindsTo s fd ⟨[v], []⟩ [("script", v)]) ∧ ∀ base : Heap, K.In base → base.Ns mainGlobals mg → FnOk P w K mg base (L2.CX P w) 5 f fd ["script"] (spD K 1 N_law) := by
  have M := mo_of X G c
  obtain ⟨fd0, F0⟩ := c.d.def_ 14 (d := dd_law) rfl
  have e0 := hfa.symm.trans (He.glo_ok X G (c.d.fact 14 (f := .glo "law") rfl))
  cases e0
  have b0 := FunD.bindsA (ps := ["script"]) F0 fun _ _ _ _ _ _ us hl => match us, hl with | [_], _ => rfl
  refine ⟨fd0, fun s v => b0 s [v] rfl, fun base _ _ => ?_⟩
  have C__law_bag := ok__law_bag (P := P) (w := w) (base := base) M (df__law_bag X G c)
  have C__law_take := ok__law_take (P := P) (w := w) (base := base) M (df__law_take X G c)
  have C__law_some := ok__law_some (P := P) (w := w) (base := base) M (df__law_some X G c) C__law_take
  have C__law_word := ok__law_word (P := P) (w := w) (base := base) M (df__law_word X G c) C__law_some
  have C__law_alike := ok__law_alike (P := P) (w := w) (base := base) M (df__law_alike X G c)
  have C_is_integer := ok_is_integer (P := P) (w := w) (base := base) M (df_is_integer X G c)
  have C_is_within := ok_is_within (P := P) (w := w) (base := base) M (df_is_within X G c) C_is_integer
  have C__law_are_unlike := ok__law_are_unlike (P := P) (w := w) (base := base) M (df__law_are_unlike X G c)
  have C_is_name := ok_is_name (P := P) (w := w) (base := base) M (df_is_name X G c)
  have C__law_is_name := ok__law_is_name (P := P) (w := w) (base := base) M (df__law_is_name X G c)
  have C__law_is_int := ok__law_is_int (P := P) (w := w) (base := base) M (df__law_is_int X G c)
  have C_are_names := ok_are_names (P := P) (w := w) (base := base) M (df_are_names X G c) C_is_name
  have C_are_some_of := ok_are_some_of (P := P) (w := w) (base := base) M (df_are_some_of X G c) C_are_names
  have C_is_lot := ok_is_lot (P := P) (w := w) (base := base) M (df_is_lot X G c) C_are_some_of
  exact fo_law M F0 C__law_bag C__law_word C__law_some C__law_take C__law_alike C_is_within C__law_are_unlike C_is_name C_is_integer C__law_is_name C__law_is_int C_are_names C_are_some_of C_is_lot
end K01
open PySem PySem.W PySem.Calls PyProof.Rows
theorem PySem.Challenge.cw_leastdoubt_k01_forms_of_any_values_holds : PySem.Challenge.rw_leastdoubt_k01_forms_of_any_values.Holds := by
  w_on; o_law
  refine HandSHeadRun.head_any (r := OpenLaw.row PySem.Challenge.rw_leastdoubt_k01_forms_of_any_values) (q := view (OpenLaw.row PySem.Challenge.rw_leastdoubt_k01_forms_of_any_values).prog [19]) (H := K01.hk) (ob := K01.ob) (M := 4000) (loose := (K01.loose0)) (d := HandSHeadRun.topDef (OpenLaw.row PySem.Challenge.rw_leastdoubt_k01_forms_of_any_values).prog 19) (kwd := []) K01.ob_eq
    (by kernel_rfl) (fun s => by kernel_rfl) K01.run (by kernel_rfl) (by kernel_rfl) (by kernel_rfl) (by rfl) (by first | assumption | decide +kernel) (by decide +kernel) ⟨rfl, rfl, rfl, rfl, rfl, by decide +kernel⟩ ?hw ?hc
  case hw => w_witness2
  case hc =>
    refine DL.walk_D (l := PySem.Challenge.rw_leastdoubt_k01_forms_of_any_values) (n := 63) (k := 5) (x := "script") (F := K01.N_law) rfl (by decide) (by kernel_rfl) ⟨rfl, by decide, by decide⟩ ?F fun ns hn => K01.pure_law ns hn
    intro w mg fa h Y G hmg0
    obtain ⟨K, KX, c⟩ := Y
    have hmg : mg ("law" : PySem.Str) = some (.ref fa) := by
      have e : (HandSHeadRun.topDef (OpenLaw.row PySem.Challenge.rw_leastdoubt_k01_forms_of_any_values).prog 19).name = ("law" : PySem.Str) := by kernel_rfl
      rw [← e]
      exact hmg0
    obtain ⟨fd, hb, hF⟩ := K01.facts (P := (PySem.Challenge.rw_leastdoubt_k01_forms_of_any_values).prog) (w := w) KX G hmg c
    exact ⟨K, fd, KX, hb, hF⟩
