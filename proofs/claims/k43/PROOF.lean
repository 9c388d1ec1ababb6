import PyProof.Rows.All
import Wide.All
import OpenK.AllK
import Wide.FinOn
import PyProof.EqAt
import PyProof.EqKinds
import PyProof.TupleCall
import KE.KStateDown
import HandS.Base
import HandS.Call
import HandS.List
import HandS.Comp
import HandS.Ends
import HandS.Dict
import HandS.Iter
import HandS.Text
import HandS.Exc
import HandS.TryOnly
import HandS.Words
import HandS.WordsList
import HandS.WordsDict
import HandS.WordsExc
import HandS.Flow
import HandS.Lambda
import HandS.IsInst
import HandS.ExcOwn
import HandS.TupLe
import HandS.Deep
import HandS.Strs
import HandS.Conv
import HandS.Style
import HandS.DictComp
import HandS.Defaults
import PyProof.Rows.SortShellAny
import PyProof.Rows.SortShell
import HandS.Head0
import HandS.Head1
import HandS.Head2
import HandS.HeadEnd
import HandS.HeadHook1
import HandS.HeadHook2
import KE.GoesZip
import KE.GoesMore
import KE.KItemsList
import HandS.Zip0
import KE.KExcSuper
import KE.KSuper
import HandS.ExcInit
import HandS.ExcField
import HandS.Nested
import HandS.TryMany
import HandS.Star
import HandS.TupAny
import KE.KRevSl
import HandS.IntHex
import HandS.EndTab
import HandS.HeadWalk
import KE.BitLaws
import HandS.Codes
import KE.OsArith
import PySem.Challenge.RW_leastdoubt_k43_octets_of_integers_and_th
set_option Elab.async false
set_option linter.all false
set_option maxRecDepth 100000
set_option maxHeartbeats 2000000
/-! DL: a layer of plain data over HandS: values without addresses, cells for what may change, what a piece of the text computes as a function. -/
namespace DL
open PySem PySem.Spec PyProof.Rows L2

/-! ### values, cells, states -/
inductive Wd where
  | d (x : PyData) | ref (n : Nat) | tup (xs : List Wd) | rol (xs : List Wd) | v (x : V)
instance : Inhabited Wd := ⟨.d .none⟩
inductive Cell where
  | lst (xs : List Wd) | dct (kvs : List (PyData × Wd)) | ins (c : Str) (fs : List (Str × Wd)) | tab (x q : Str)
mutual
def Wd.lt (k : Nat) : Wd → Bool
  | .d _ => true
  | .ref n => decide (n < k)
  | .tup xs => Wd.ltAll k xs
  | .rol xs => Wd.ltAll k xs
  | .v _ => true
def Wd.ltAll (k : Nat) : List Wd → Bool
  | [] => true
  | x :: xs => Wd.lt k x && Wd.ltAll k xs
end
def Cell.lt (k : Nat) : Cell → Bool
  | .lst xs => Wd.ltAll k xs
  | .dct kvs => Wd.ltAll k (kvs.map (·.2))
  | .ins _ fs => Wd.ltAll k (fs.map (·.2))
  | .tab _ _ => true
/-- the cells; for each scope that is open: where it began, which older cells have got a reference since -/
structure Mm where
  cells : List Cell
  stk : List (Nat × List Nat)
structure Ex where
  cls : Str
  fs : List (Str × Wd)
inductive Rs (α : Type) where
  | ok (a : α) (m : Mm) | exc (x : Ex) (m : Mm) | stuck
def Rs.bind {α β : Type} : Rs α → (α → Mm → Rs β) → Rs β
  | .ok a m, k => k a m
  | .exc x m, _ => .exc x m
  | .stuck, _ => .stuck
@[simp] theorem Rs.bind_ok {α β : Type} (a : α) (m : Mm) (k : α → Mm → Rs β) : (Rs.ok a m).bind k = k a m := rfl
@[simp] theorem Rs.bind_exc {α β : Type} (x : Ex) (m : Mm) (k : α → Mm → Rs β) : (Rs.exc x m).bind k = .exc x m := rfl
@[simp] theorem Rs.bind_stuck {α β : Type} (k : α → Mm → Rs β) : (Rs.stuck : Rs α).bind k = .stuck := rfl
abbrev Env := List (Option Wd)
abbrev Em (α : Type) := Env → Mm → Rs α
inductive Fl where
  | nx | rt (w : Wd) | bk | ct
inductive Sr where
  | go (f : Fl) (e : Env) (m : Mm) | exc (x : Ex) (e : Env) (m : Mm) | stuck
abbrev Sm := Env → Mm → Sr

/-! ### what stands for what -/
section
variable (K : PySem.W.Frag)
mutual
inductive RelD (H : Hp) : PyData → V → Prop where
  | non : RelD H .none .non
  | bl (b : Bool) : RelD H (.bool b) (.bl b)
  | int (i : Int) : RelD H (.int i) (.int i)
  | str (x : Str) : RelD H (.str x) (.str x)
  | tup {a : Addr} {vs : List V} {ds : List PyData} : SqT K H a vs → RelDs H ds vs → RelD H (.tuple ds) (.ref a)
inductive RelDs (H : Hp) : List PyData → List V → Prop where
  | nil : RelDs H [] []
  | cons {d : PyData} {ds : List PyData} {v : V} {vs : List V} : RelD H d v → RelDs H ds vs → RelDs H (d :: ds) (v :: vs)
end
/-- a list that is only read: the script -/
def Rol (H : Hp) (a : Addr) (vs : List V) : Prop := (∃ o, H a = some (.frz o (.lst vs))) ∨
  ∃ (o : Obj) (its : Array Value) (n : Nat), K.lookup a = some o ∧ o.cls = .type "list" ∧ o.dict = none ∧ o.data = .seq its n ∧ its.size ≤ sizeLine ∧ Vals vs its.toList
mutual
inductive RelW (ι : List Addr) (H : Hp) : Wd → V → Prop where
  | d {x : PyData} {v : V} : RelD K H x v → RelW ι H (.d x) v
  | ref {n : Nat} {a : Addr} : ι[n]? = some a → RelW ι H (.ref n) (.ref a)
  | tup {a : Addr} {vs : List V} {ws : List Wd} : SqT K H a vs → RelWs ι H ws vs → RelW ι H (.tup ws) (.ref a)
  | rol {a : Addr} {vs : List V} {ws : List Wd} : Rol K H a vs → RelWs ι H ws vs → RelW ι H (.rol ws) (.ref a)
  | v (x : V) : RelW ι H (.v x) x
inductive RelWs (ι : List Addr) (H : Hp) : List Wd → List V → Prop where
  | nil : RelWs ι H [] []
  | cons {w : Wd} {ws : List Wd} {v : V} {vs : List V} : RelW ι H w v → RelWs ι H ws vs → RelWs ι H (w :: ws) (v :: vs)
end
/-- a dict's pairs: keys that are ints and texts -/
def keyD : Key → PyData
  | .inl i => .int i
  | .inr x => .str x
def KvOk (ι : List Addr) (H : Hp) : List (PyData × Wd) → List (Key × V) → Prop
  | [], [] => True
  | (d, w) :: r, (k, v) :: r' => d = keyD k ∧ RelW K ι H w v ∧ KvOk ι H r r'
  | _, _ => False
def FsOk (ι : List Addr) (H : Hp) : List (Str × Wd) → List (Str × V) → Prop
  | [], [] => True
  | (f, w) :: r, (g, v) :: r' => f = g ∧ RelW K ι H w v ∧ FsOk ι H r r'
  | _, _ => False
/-- the table that the code object of the def x names -/
def tabP (x : Str) : Option Addr := match PySem.W.nsIn K mainGlobals x with
  | some (some (.ref f)) => (match K.lookup f with
    | some ⟨_, _, .func fd, _⟩ => (match fd.code with
      | .ref c => (match K.lookup c with
        | some ⟨_, _, .fields vs, _⟩ => (match (vs[11]? : Option Value) with
          | some (Value.ref P) => some P
          | _ => none)
        | _ => none)
      | _ => none)
    | _ => none)
  | _ => none
def CellOk (ι : List Addr) (H : Hp) (a : Addr) : Cell → Prop
  | .lst xs => ∃ vs, H a = some (.lst vs) ∧ RelWs K ι H xs vs
  | .dct kvs => ∃ ks, H a = some (.dK ks) ∧ KvOk K ι H kvs ks
  | .ins c fs => ∃ (C dx : Addr) (gs : List (Str × V)), PySem.W.nsIn K mainGlobals c = some (some (.ref C)) ∧ H a = some (.ins C dx gs) ∧ FsOk K ι H fs gs
  | .tab x q => tabP K x = some a ∧ LamX.TabS H a q
structure MemOk (ι : List Addr) (m : Mm) (H : Hp) : Prop where
  len : ι.length = m.cells.length
  nd : ι.Nodup
  cell : ∀ (n : Nat) a c, ι[n]? = some a → m.cells[n]? = some c → CellOk K ι H a c
  top : ∀ p ∈ m.stk, p.1 ≤ m.cells.length
  ord : (m.stk.map (·.1)).Pairwise (fun x y => y ≤ x)
  clean : ∀ p ∈ m.stk, ∀ (n : Nat) c, n < p.1 → n ∉ p.2 → m.cells[n]? = some c → c.lt p.1 = true
def EnvOk (ι : List Addr) (H : Hp) (env : Env) (σ : L2.St) : Prop :=
  env.length = σ.length ∧ ∀ (i : Nat) w, env[i]? = some (some w) → ∃ v, σ[i]? = some (some v) ∧ RelW K ι H w v
end
/-- later: no more is forgotten, what is new was free, what is no cell stays -/
structure Stp (ι : List Addr) (H : Hp) (ι' : List Addr) (H' : Hp) : Prop where
  pre : ι <+: ι'
  new : ∀ a ∈ ι', a ∉ ι → H a = none
  fix : ∀ a o, H a = some o → a ∉ ι → H' a = some o
theorem Stp.refl {ι : List Addr} {H : Hp} : Stp ι H ι H := ⟨List.prefix_refl ι, fun _ h n => absurd h n, fun _ _ h _ => h⟩
theorem Stp.trans {ι ι1 ι2 : List Addr} {H H1 H2 : Hp} (a : Stp ι H ι1 H1) (b : Stp ι1 H1 ι2 H2) : Stp ι H ι2 H2 where
  pre := a.pre.trans b.pre
  new := fun x hx n => by
    by_cases h : x ∈ ι1
    · exact a.new x h n
    · have e := b.new x hx h
      cases q : H x with
      | none => rfl
      | some o => rw [a.fix x o q n] at e; cases e
  fix := fun x o h n => by
    have h1 := a.fix x o h n
    by_cases h2 : x ∈ ι1
    · have := a.new x h2 n
      rw [h] at this; cases this
    · exact b.fix x o h1 h2

section
variable {K : PySem.W.Frag} {ι ι' : List Addr} {H H' : Hp}
def Apart (ι : List Addr) (H : Hp) : Prop := ∀ a ∈ ι, (∀ xs, ¬ Rd H a (.tup xs)) ∧ (∀ o u, H a ≠ some (.frz o u)) ∧ (H a ≠ none ∧ ∀ p, H a ≠ some (.ext p))
theorem CellOk.apart {a : Addr} {c : Cell} (h : CellOk K ι H a c) : (∀ xs, ¬ Rd H a (.tup xs)) ∧ (∀ o u, H a ≠ some (.frz o u)) ∧ (H a ≠ none ∧ ∀ p, H a ≠ some (.ext p)) := by
  have key : ∀ u, H a = some u → (∀ xs, u ≠ .tup xs) → (∀ o w, u ≠ .frz o w) → (∀ p, u ≠ .ext p) → (∀ xs, ¬ Rd H a (.tup xs)) ∧ (∀ o u, H a ≠ some (.frz o u)) ∧ (H a ≠ none ∧ ∀ p, H a ≠ some (.ext p)) := fun u e n1 n2 n3 => by
    refine ⟨fun xs r => ?_, fun o w r => ?_, fun r => ?_, fun p r => ?_⟩
    · rcases r with r | ⟨o, r⟩
      · rw [e] at r; exact n1 xs (Option.some.inj r)
      · rw [e] at r; exact n2 _ _ (Option.some.inj r)
    · rw [e] at r; exact n2 _ _ (Option.some.inj r)
    · rw [e] at r; cases r
    · rw [e] at r; exact n3 _ (Option.some.inj r)
  cases c with
  | lst ys => obtain ⟨vs, e, _⟩ := h; exact key _ e (fun _ z => by cases z) (fun _ _ z => by cases z) (fun _ z => by cases z)
  | dct kvs => obtain ⟨vs, e, _⟩ := h; exact key _ e (fun _ z => by cases z) (fun _ _ z => by cases z) (fun _ z => by cases z)
  | ins c fs => obtain ⟨_, _, vs, _, e, _⟩ := h; exact key _ e (fun _ z => by cases z) (fun _ _ z => by cases z) (fun _ z => by cases z)
  | tab x q => obtain ⟨_, ps, e, _⟩ := h; exact key _ e (fun _ z => by cases z) (fun _ _ z => by cases z) (fun _ z => by cases z)
theorem MemOk.apart {m : Mm} (h : MemOk K ι m H) : Apart ι H := fun a ha => by
  obtain ⟨n, hn, e⟩ := List.getElem_of_mem ha
  have h1 : ι[n]? = some a := by rw [List.getElem?_eq_getElem hn, e]
  have hn' : n < m.cells.length := by rw [← h.len]; exact hn
  exact (h.cell n a _ h1 (List.getElem?_eq_getElem hn')).apart
theorem MemOk.new {m : Mm} {p : Addr} (h : MemOk K ι m H) (hp : H p = none) : p ∉ ι := fun hi => (h.apart p hi).2.2.1 hp
theorem rol_step {a : Addr} {vs : List V} (ap : Apart ι H) (st : Stp ι H ι' H') (h : Rol K H a vs) : Rol K H' a vs := by
  rcases h with ⟨o, h⟩ | h
  · exact .inl ⟨o, st.fix _ _ h fun z => (ap a z).2.1 _ _ h⟩
  · exact .inr h
theorem Rol.sqL {a : Addr} {vs : List V} (h : Rol K H a vs) : SqL K H a vs := by
  rcases h with ⟨o, h⟩ | h
  · exact .inl (.inr ⟨o, h⟩)
  · exact .inr h
theorem sqT_step {a : Addr} {vs : List V} (ap : Apart ι H) (st : Stp ι H ι' H') (h : SqT K H a vs) : SqT K H' a vs := by
  rcases h with h | h
  · have n : a ∉ ι := fun z => (ap a z).1 vs h
    rcases h with h | ⟨o, h⟩
    · exact .inl (.inl (st.fix _ _ h n))
    · exact .inl (.inr ⟨o, st.fix _ _ h n⟩)
  · exact .inr h
mutual
theorem RelD.step (ap : Apart ι H) (st : Stp ι H ι' H') : ∀ {d : PyData} {v : V}, RelD K H d v → RelD K H' d v
  | _, _, .non => .non
  | _, _, .bl b => .bl b
  | _, _, .int i => .int i
  | _, _, .str x => .str x
  | _, _, .tup h hs => .tup (sqT_step ap st h) (RelDs.step ap st hs)
theorem RelDs.step (ap : Apart ι H) (st : Stp ι H ι' H') : ∀ {d : List PyData} {v : List V}, RelDs K H d v → RelDs K H' d v
  | _, _, .nil => .nil
  | _, _, .cons h hs => .cons (RelD.step ap st h) (RelDs.step ap st hs)
end
theorem pre_get {n : Nat} {a : Addr} (p : ι <+: ι') (h : ι[n]? = some a) : ι'[n]? = some a := by
  obtain ⟨t, rfl⟩ := p
  rw [List.getElem?_append_left (List.getElem?_eq_some_iff.mp h).1]
  exact h
mutual
theorem RelW.step (ap : Apart ι H) (st : Stp ι H ι' H') : ∀ {d : Wd} {v : V}, RelW K ι H d v → RelW K ι' H' d v
  | _, _, .d h => .d (h.step ap st)
  | _, _, .ref h => .ref (pre_get st.pre h)
  | _, _, .tup h hs => .tup (sqT_step ap st h) (RelWs.step ap st hs)
  | _, _, .rol h hs => .rol (rol_step ap st h) (RelWs.step ap st hs)
  | _, _, .v x => .v x
theorem RelWs.step (ap : Apart ι H) (st : Stp ι H ι' H') : ∀ {d : List Wd} {v : List V}, RelWs K ι H d v → RelWs K ι' H' d v
  | _, _, .nil => .nil
  | _, _, .cons h hs => .cons (RelW.step ap st h) (RelWs.step ap st hs)
end
theorem KvOk.step (ap : Apart ι H) (st : Stp ι H ι' H') : ∀ {d : List (PyData × Wd)} {v : List (Key × V)}, KvOk K ι H d v → KvOk K ι' H' d v
  | [], [], _ => True.intro
  | (_, _) :: _, (_, _) :: _, ⟨h1, h2, h3⟩ => ⟨h1, h2.step ap st, KvOk.step ap st h3⟩
  | [], _ :: _, h => h.elim
  | _ :: _, [], h => h.elim
theorem FsOk.step (ap : Apart ι H) (st : Stp ι H ι' H') : ∀ {d : List (Str × Wd)} {v : List (Str × V)}, FsOk K ι H d v → FsOk K ι' H' d v
  | [], [], _ => True.intro
  | (_, _) :: _, (_, _) :: _, ⟨h1, h2, h3⟩ => ⟨h1, h2.step ap st, FsOk.step ap st h3⟩
  | [], _ :: _, h => h.elim
  | _ :: _, [], h => h.elim
theorem EnvOk.step {env : Env} {σ : L2.St} (ap : Apart ι H) (st : Stp ι H ι' H') (h : EnvOk K ι H env σ) : EnvOk K ι' H' env σ :=
  ⟨h.1, fun i w e => let ⟨v, e1, r⟩ := h.2 i w e; ⟨v, e1, r.step ap st⟩⟩
/-- a cell that itself is as it was -/
theorem CellOk.step {a : Addr} {c : Cell} (ap : Apart ι H) (st : Stp ι H ι' H') (ha : H' a = H a) (h : CellOk K ι H a c) : CellOk K ι' H' a c := by
  cases c with
  | lst xs => obtain ⟨vs, e, r⟩ := h; exact ⟨vs, ha.trans e, r.step ap st⟩
  | dct kvs => obtain ⟨ks, e, r⟩ := h; exact ⟨ks, ha.trans e, r.step ap st⟩
  | ins c fs => obtain ⟨C, dx, gs, e0, e, r⟩ := h; exact ⟨C, dx, gs, e0, ha.trans e, r.step ap st⟩
  | tab x q =>
    obtain ⟨h0, ps, e, h2, h3⟩ := h
    refine ⟨h0, ps, ha.trans e, h2, fun pos cv hc => ?_⟩
    obtain ⟨b, e1, e2⟩ := h3 pos cv hc
    exact ⟨b, e1, st.fix _ _ e2 fun z => (ap b z).2.2.2 _ e2⟩

/-! ### lists of values -/
theorem RelWs.length : ∀ {ws : List Wd} {vs : List V}, RelWs K ι H ws vs → ws.length = vs.length
  | _, _, .nil => rfl
  | _, _, .cons _ h => congrArg (· + 1) (RelWs.length h)
theorem RelDs.length : ∀ {ws : List PyData} {vs : List V}, RelDs K H ws vs → ws.length = vs.length
  | _, _, .nil => rfl
  | _, _, .cons _ h => congrArg (· + 1) (RelDs.length h)
theorem RelWs.get : ∀ {ws : List Wd} {vs : List V} {i : Nat} {w : Wd}, RelWs K ι H ws vs → ws[i]? = some w → ∃ v, vs[i]? = some v ∧ RelW K ι H w v
  | _, _, i, w, .nil, e => by simp at e
  | _, _, 0, w, .cons h _, e => by simp at e; subst e; exact ⟨_, rfl, h⟩
  | _, _, i + 1, w, .cons _ h, e => by
    obtain ⟨v, e1, r⟩ := RelWs.get (i := i) (w := w) h (by simpa using e)
    exact ⟨v, by simpa using e1, r⟩
theorem RelWs.get' : ∀ {ws : List Wd} {vs : List V} {i : Nat} {v : V}, RelWs K ι H ws vs → vs[i]? = some v → ∃ w, ws[i]? = some w ∧ RelW K ι H w v
  | _, _, i, w, .nil, e => by simp at e
  | _, _, 0, w, .cons h _, e => by simp at e; subst e; exact ⟨_, rfl, h⟩
  | _, _, i + 1, w, .cons _ h, e => by
    obtain ⟨v, e1, r⟩ := RelWs.get' (i := i) (v := w) h (by simpa using e)
    exact ⟨v, by simpa using e1, r⟩
theorem RelWs.append : ∀ {ws ws' : List Wd} {vs vs' : List V}, RelWs K ι H ws vs → RelWs K ι H ws' vs' → RelWs K ι H (ws ++ ws') (vs ++ vs')
  | _, _, _, _, .nil, h => h
  | _, _, _, _, .cons h hs, h' => .cons h (RelWs.append hs h')
theorem RelWs.take : ∀ {ws : List Wd} {vs : List V} (n : Nat), RelWs K ι H ws vs → RelWs K ι H (ws.take n) (vs.take n)
  | _, _, 0, _ => .nil
  | _, _, _ + 1, .nil => .nil
  | _, _, n + 1, .cons h hs => .cons h (RelWs.take n hs)
theorem RelWs.drop : ∀ {ws : List Wd} {vs : List V} (n : Nat), RelWs K ι H ws vs → RelWs K ι H (ws.drop n) (vs.drop n)
  | _, _, 0, h => h
  | _, _, _ + 1, .nil => .nil
  | _, _, n + 1, .cons h hs => RelWs.drop n hs
theorem RelWs.set {w : Wd} {v : V} (r : RelW K ι H w v) : ∀ {ws : List Wd} {vs : List V} (n : Nat), RelWs K ι H ws vs → RelWs K ι H (ws.set n w) (vs.set n v)
  | _, _, _, .nil => .nil
  | _, _, 0, .cons h hs => .cons r hs
  | _, _, n + 1, .cons h hs => .cons h (RelWs.set r n hs)
theorem RelDs.ws : ∀ {ds : List PyData} {vs : List V}, RelDs K H ds vs → RelWs K ι H (ds.map .d) vs
  | _, _, .nil => .nil
  | _, _, .cons h hs => .cons (.d h) (RelDs.ws hs)
theorem RelWs.ds : ∀ {ds : List PyData} {vs : List V}, RelWs K ι H (ds.map .d) vs → RelDs K H ds vs
  | [], _, h => by cases h; exact .nil
  | d :: ds, _, h => by
    cases h with
    | cons h hs => cases h with
      | d h => exact .cons h (RelWs.ds hs)
/-! ### tuples: data where they hold no reference -/
def allD : List Wd → Option (List PyData)
  | [] => some []
  | .d x :: r => (allD r).map (x :: ·)
  | _ :: _ => none
theorem allD_eq : ∀ {ws : List Wd} {ds : List PyData}, allD ws = some ds → ws = ds.map .d
  | [], ds, h => by cases h; rfl
  | .d x :: r, ds, h => by
    cases q : allD r with
    | none => simp [allD, q] at h
    | some es =>
      simp [allD, q] at h
      subst h
      rw [allD_eq q]; rfl
  | .ref _ :: _, _, h => by cases h
  | .tup _ :: _, _, h => by cases h
  | .rol _ :: _, _, h => by cases h
  | .v _ :: _, _, h => by cases h
@[simp] theorem allD_map : ∀ ds : List PyData, allD (ds.map .d) = some ds
  | [] => rfl
  | d :: ds => by simp [allD, allD_map ds]
def mkTup (ws : List Wd) : Wd := match allD ws with
  | some ds => .d (.tuple ds)
  | none => .tup ws
@[simp] theorem mkTup_map (ds : List PyData) : mkTup (ds.map .d) = .d (.tuple ds) := by simp [mkTup]
theorem mkTup_ok {a : Addr} {vs : List V} {ws : List Wd} (h : SqT K H a vs) (r : RelWs K ι H ws vs) : RelW K ι H (mkTup ws) (.ref a) := by
  unfold mkTup
  cases q : allD ws with
  | none => exact .tup h r
  | some ds =>
    rw [allD_eq q] at r
    exact .d (.tup h r.ds)
/-- the items of a tuple -/
def tupOf : Wd → Option (List Wd)
  | .d (.tuple ds) => some (ds.map .d)
  | .tup ws => some ws
  | _ => none
theorem tupOf_ok {w : Wd} {ws : List Wd} {v : V} (e : tupOf w = some ws) (r : RelW K ι H w v) : ∃ a vs, v = .ref a ∧ SqT K H a vs ∧ RelWs K ι H ws vs := by
  cases r with
  | d h =>
    cases h with
    | tup h hs => cases e; exact ⟨_, _, rfl, h, hs.ws⟩
    | _ => cases e
  | tup h hs => cases e; exact ⟨_, _, rfl, h, hs⟩
  | ref _ => cases e
  | rol _ _ => cases e
  | v _ => cases e
end
end DL
set_option Elab.async false
set_option linter.all false
set_option maxRecDepth 100000
set_option maxHeartbeats 2000000
namespace DL
open PySem PySem.Spec PyProof.Rows L2

/-! ### the end of a piece -/
section
variable (K : PySem.W.Frag)
def ExOk (ι : List Addr) (H : Hp) (x : Ex) (cls : Value) (d : Option Addr) : Prop :=
  ∃ C, PySem.W.nsIn K mainGlobals x.cls = some (some (.ref C)) ∧ cls = .ref C ∧
    ((x.fs = [] ∧ d = none) ∨ ∃ dd gs, d = some dd ∧ H dd = some (.xd gs) ∧ FsOk K ι H x.fs gs)
def Post {α β : Type} (W : L2.WX) (rel : List Addr → Hp → α → β → Prop) (ι : List Addr) (H : Hp) (σ : L2.St) (Q : β → Hp → Prop) : Rs α → Prop
  | .ok a m => ∀ ι' H' b, Stp ι H ι' H' → MemOk K ι' m H' → rel ι' H' a b → Q b H'
  | .exc x m => ∀ ι' H' cls d, Stp ι H ι' H' → MemOk K ι' m H' → ExOk K ι' H' x cls d → W cls d σ H'
  | .stuck => False
def tG {α β : Type} (W : L2.WX) (rel : List Addr → Hp → α → β → Prop) (f : Em α) : L2.St → Hp → (β → Hp → Prop) → Prop := fun σ H Q =>
  ∃ ι env m, EnvOk K ι H env σ ∧ MemOk K ι m H ∧ Post K W rel ι H σ Q (f env m)
abbrev tE (W : L2.WX) (f : Em Wd) : TE := tG K W (RelW K) f
abbrev tT (W : L2.WX) (f : Em Bool) : TT := tG K W (fun _ _ a b => a = b) f
abbrev tA (W : L2.WX) (f : Em (List Wd)) : TA := tG K W (RelWs K) f
def PostS (W : L2.WX) (D : Ends) (ι : List Addr) (H : Hp) : Sr → Prop
  | .go .nx env m => ∀ ι' H' σ, Stp ι H ι' H' → MemOk K ι' m H' → EnvOk K ι' H' env σ → D.nx σ H'
  | .go .bk env m => ∀ ι' H' σ, Stp ι H ι' H' → MemOk K ι' m H' → EnvOk K ι' H' env σ → D.bk σ H'
  | .go .ct env m => ∀ ι' H' σ, Stp ι H ι' H' → MemOk K ι' m H' → EnvOk K ι' H' env σ → D.ct σ H'
  | .go (.rt w) env m => ∀ ι' H' v, Stp ι H ι' H' → MemOk K ι' m H' → RelW K ι' H' w v → D.rt v H'
  | .exc x env m => ∀ ι' H' σ cls d, Stp ι H ι' H' → MemOk K ι' m H' → EnvOk K ι' H' env σ → ExOk K ι' H' x cls d → W cls d σ H'
  | .stuck => False
def tS (W : L2.WX) (f : Sm) : TS := fun D σ H => ∃ ι env m, EnvOk K ι H env σ ∧ MemOk K ι m H ∧ PostS K W D ι H (f env m)
end
abbrev W0 : L2.WX := fun _ _ _ _ => False
section
variable {K : PySem.W.Frag} {W : L2.WX} {ι ι' ι1 : List Addr} {H H' H1 : Hp} {σ : L2.St}
theorem Post.step {α β : Type} {rel : List Addr → Hp → α → β → Prop} {Q : β → Hp → Prop} {r : Rs α} (st : Stp ι H ι1 H1) (h : Post K W rel ι H σ Q r) : Post K W rel ι1 H1 σ Q r := by
  cases r with
  | ok a m => exact fun ι' H' b s mo r => h ι' H' b (st.trans s) mo r
  | exc x m => exact fun ι' H' c d s mo r => h ι' H' c d (st.trans s) mo r
  | stuck => exact h
theorem PostS.step {D : Ends} {r : Sr} (st : Stp ι H ι1 H1) (h : PostS K W D ι H r) : PostS K W D ι1 H1 r := by
  cases r with
  | go f e m =>
    cases f with
    | nx => exact fun ι' H' b s mo r => h ι' H' b (st.trans s) mo r
    | bk => exact fun ι' H' b s mo r => h ι' H' b (st.trans s) mo r
    | ct => exact fun ι' H' b s mo r => h ι' H' b (st.trans s) mo r
    | rt w => exact fun ι' H' b s mo r => h ι' H' b (st.trans s) mo r
  | exc x e m => exact fun ι' H' b c d s mo r => h ι' H' b c d (st.trans s) mo r
  | stuck => exact h
/-- a first part, then the rest -/
theorem Post.bind {α β γ δ : Type} {ra : List Addr → Hp → α → β → Prop} {rc : List Addr → Hp → γ → δ → Prop} {Q : δ → Hp → Prop} {P : β → Hp → Prop} {f : Em α} {k : α → Mm → Rs γ} {env : Env} {m : Mm}
    (eo : EnvOk K ι H env σ) (mo : MemOk K ι m H) (p : Post K W rc ι H σ Q ((f env m).bind k))
    (h : ∀ ι1 H1 a b m1, Stp ι H ι1 H1 → MemOk K ι1 m1 H1 → EnvOk K ι1 H1 env σ → ra ι1 H1 a b → Post K W rc ι1 H1 σ Q (k a m1) → P b H1) : tG K W ra f σ H P := by
  refine ⟨ι, env, m, eo, mo, ?_⟩
  cases e : f env m with
  | ok a m1 => rw [e] at p; exact fun ι1 H1 b st mo1 r => h ι1 H1 a b m1 st mo1 (eo.step mo.apart st) r (p.step st)
  | exc x m1 => rw [e] at p; exact p
  | stuck => rw [e] at p; exact p
/-- the state after an expression, then a statement's rest -/
theorem PostS.bind {α β : Type} {ra : List Addr → Hp → α → β → Prop} {D : Ends} {P : β → Hp → Prop} {f : Em α} {k : α → Mm → Sr} {env : Env} {m : Mm}
    (eo : EnvOk K ι H env σ) (mo : MemOk K ι m H) (p : PostS K W D ι H (match f env m with | .ok a m1 => k a m1 | .exc x m1 => .exc x env m1 | .stuck => .stuck))
    (h : ∀ ι1 H1 a b m1, Stp ι H ι1 H1 → MemOk K ι1 m1 H1 → EnvOk K ι1 H1 env σ → ra ι1 H1 a b → PostS K W D ι1 H1 (k a m1) → P b H1) : tG K W ra f σ H P := by
  refine ⟨ι, env, m, eo, mo, ?_⟩
  cases e : f env m with
  | ok a m1 => rw [e] at p; exact fun ι1 H1 b st mo1 r => h ι1 H1 a b m1 st mo1 (eo.step mo.apart st) r (p.step st)
  | exc x m1 =>
    rw [e] at p
    exact fun ι1 H1 c d st mo1 xo => p ι1 H1 σ c d st mo1 (eo.step mo.apart st) xo
  | stuck => rw [e] at p; exact p
/-- one that makes a new cell, one that changes nothing -/
theorem stp_new {p : Addr} {o : HO} (hp : H p = none) : Stp ι H (ι ++ [p]) (upd H p o) where
  pre := List.prefix_append _ _
  new := fun a ha n => by
    rcases List.mem_append.mp ha with h | h
    · exact absurd h n
    · rw [List.mem_singleton.mp h]; exact hp
  fix := fun a u h n => by rw [upd_ne (ne_of_none h hp)]; exact h
theorem stp_tup {p : Addr} {o : HO} (hp : H p = none) : Stp ι H ι (upd H p o) where
  pre := List.prefix_refl _
  new := fun a ha n => absurd ha n
  fix := fun a u h n => by rw [upd_ne (ne_of_none h hp)]; exact h
theorem stp_set {p : Addr} {o : HO} (hi : p ∈ ι) : Stp ι H ι (upd H p o) where
  pre := List.prefix_refl _
  new := fun a ha n => absurd ha n
  fix := fun a u h n => by
    rw [upd_ne (fun z => n (by rw [z]; exact hi))]; exact h
end
end DL
set_option Elab.async false
set_option linter.all false
set_option maxRecDepth 100000
set_option maxHeartbeats 2000000
namespace DL
open PySem PySem.Spec PyProof.Rows L2

/-! ### what may be done with the cells -/
def Mm.push (m : Mm) (c : Cell) : Mm := ⟨m.cells ++ [c], m.stk⟩
/-- the cell n is c from now on; pure: no older scope need be told -/
def Mm.put (m : Mm) (n : Nat) (c : Cell) (pure : Bool) : Mm := ⟨m.cells.set n c, if pure then m.stk else m.stk.map fun p => (p.1, n :: p.2)⟩
def Mm.openS (m : Mm) : Mm := ⟨m.cells, (m.cells.length, []) :: m.stk⟩
/-- a scope that began at n0 ends; held: what is still held lies below -/
def Mm.closeS (m : Mm) (n0 : Nat) (held : Bool) : Mm := match m.stk with
  | [] => m
  | (b, ds) :: r => if (decide (b = n0) && held && ds.all fun n => decide (n0 ≤ n) || (match m.cells[n]? with | some c => c.lt n0 | none => true)) = true then ⟨m.cells.take n0, r⟩ else ⟨m.cells, r⟩

section
variable {K : PySem.W.Frag} {ι ι' : List Addr} {H H' : Hp} {m : Mm}
theorem get_of {α : Type} {l : List α} {i : Nat} {x : α} (h : l[i]? = some x) : i < l.length := (List.getElem?_eq_some_iff.mp h).1
theorem nodup_get {α : Type} {l : List α} (hn : l.Nodup) {i j : Nat} {x : α} (a : l[i]? = some x) (b : l[j]? = some x) : i = j := by
  obtain ⟨h1, e1⟩ := List.getElem?_eq_some_iff.mp a
  obtain ⟨h2, e2⟩ := List.getElem?_eq_some_iff.mp b
  exact (List.getElem_inj hn).mp (e1.trans e2.symm)
theorem MemOk.push {c : Cell} {p : Addr} {o : HO} (mo : MemOk K ι m H) (hp : H p = none) (h : CellOk K (ι ++ [p]) (upd H p o) p c) : MemOk K (ι ++ [p]) (m.push c) (upd H p o) := by
  have hni := mo.new hp
  refine ⟨by simp [Mm.push, mo.len], ?_, fun n a c' h1 h2 => ?_, fun q hq => ?_, ?_, fun q hq n c' hn hd hc => ?_⟩
  · rw [List.nodup_append]
    exact ⟨mo.nd, by simp, fun a ha b hb e => hni (by rw [List.mem_singleton.mp hb] at e; rw [← e]; exact ha)⟩
  · by_cases hlt : n < ι.length
    · rw [List.getElem?_append_left hlt] at h1
      have h2' : m.cells[n]? = some c' := by
        have : (m.cells ++ [c])[n]? = some c' := h2
        rwa [List.getElem?_append_left (by rw [← mo.len]; exact hlt)] at this
      have hne : a ≠ p := fun e => hni (by rw [← e]; exact List.mem_of_getElem? h1)
      exact (mo.cell n a c' h1 h2').step mo.apart (stp_new hp) (upd_ne hne)
    · have hl := get_of h1
      rw [List.length_append, List.length_singleton] at hl
      have e : n = ι.length := by omega
      subst e
      have e1 : a = p := by simpa using h1.symm
      have e2 : c' = c := by
        have : (m.cells ++ [c])[ι.length]? = some c' := h2
        rw [mo.len] at this
        simpa using this.symm
      subst e1; subst e2
      exact h
  · have := mo.top q hq
    show q.1 ≤ (m.cells ++ [c]).length
    rw [List.length_append]; omega
  · exact mo.ord
  · have ht := mo.top q hq
    have hc' : (m.cells ++ [c])[n]? = some c' := hc
    rw [List.getElem?_append_left (by omega)] at hc'
    exact mo.clean q hq n c' hn hd hc'
/-- new values beside: nothing that is tracked changes -/
theorem MemOk.stay {ι' : List Addr} (mo : MemOk K ι m H) (st : Stp ι H ι H') (h : ∀ a ∈ ι, H' a = H a) : MemOk K ι m H' :=
  ⟨mo.len, mo.nd, fun n a c h1 h2 => (mo.cell n a c h1 h2).step mo.apart st (h a (List.mem_of_getElem? h1)), mo.top, mo.ord, mo.clean⟩
theorem MemOk.tup {p : Addr} {xs : List V} (mo : MemOk K ι m H) (hp : H p = none) : MemOk K ι m (upd H p (.tup xs)) :=
  mo.stay (ι' := ι) (stp_tup hp) fun a ha => upd_ne fun e => mo.new hp (by rw [← e]; exact ha)
theorem MemOk.put {c c' : Cell} {n : Nat} {a : Addr} {o : HO} {pure : Bool} (mo : MemOk K ι m H) (hn : ι[n]? = some a) (hc : m.cells[n]? = some c) (h : CellOk K ι (upd H a o) a c')
    (hp : pure = true → ∀ b, c.lt b = true → c'.lt b = true) : MemOk K ι (m.put n c' pure) (upd H a o) := by
  have ha : a ∈ ι := List.mem_of_getElem? hn
  refine ⟨by simp [Mm.put, mo.len], mo.nd, fun n' a' d h1 h2 => ?_, fun q hq => ?_, ?_, fun q hq n' d hlt hd hq2 => ?_⟩
  · have h2' : (m.cells.set n c')[n']? = some d := h2
    by_cases e : n' = n
    · subst e
      rw [h1] at hn; cases hn
      rw [List.getElem?_set_self (by rw [← mo.len]; exact get_of h1)] at h2'
      cases h2'
      exact h
    · rw [List.getElem?_set_ne (Ne.symm e)] at h2'
      have hne : a' ≠ a := fun z => e (nodup_get mo.nd h1 (by rw [z]; exact hn))
      exact (mo.cell n' a' d h1 h2').step mo.apart (stp_set ha) (upd_ne hne)
  · show q.1 ≤ (m.cells.set n c').length
    rw [List.length_set]
    have hq' : q ∈ (if pure then m.stk else m.stk.map fun p => (p.1, n :: p.2)) := hq
    cases pure with
    | true => exact mo.top q hq'
    | false =>
      obtain ⟨q0, h0, e⟩ := List.mem_map.mp hq'
      subst e
      exact mo.top q0 h0
  · show ((if pure then m.stk else m.stk.map fun p => (p.1, n :: p.2)).map (·.1)).Pairwise _
    cases pure with
    | true => exact mo.ord
    | false =>
      rw [if_neg (by decide), List.map_map]
      exact mo.ord
  · have h2' : (m.cells.set n c')[n']? = some d := hq2
    have hq' : q ∈ (if pure then m.stk else m.stk.map fun p => (p.1, n :: p.2)) := hq
    cases pure with
    | true =>
      by_cases e : n' = n
      · subst e
        rw [List.getElem?_set_self (get_of hc)] at h2'
        cases h2'
        exact hp rfl _ (mo.clean q hq' n' c hlt hd hc)
      · rw [List.getElem?_set_ne (Ne.symm e)] at h2'
        exact mo.clean q hq' n' d hlt hd h2'
    | false =>
      obtain ⟨q0, h0, e0⟩ := List.mem_map.mp hq'
      subst e0
      have e : n' ≠ n := fun z => hd (by rw [z]; exact List.mem_cons_self)
      rw [List.getElem?_set_ne (Ne.symm e)] at h2'
      exact mo.clean q0 h0 n' d hlt (fun z => hd (List.mem_cons_of_mem _ z)) h2'
/-! ### scopes -/
mutual
theorem RelW.lt : ∀ {w : Wd} {v : V}, RelW K ι H w v → Wd.lt ι.length w = true
  | _, _, .d _ => rfl
  | _, _, .ref h => decide_eq_true (get_of h)
  | _, _, .tup _ h => RelWs.lt h
  | _, _, .rol _ h => RelWs.lt h
  | _, _, .v _ => rfl
theorem RelWs.lt : ∀ {w : List Wd} {v : List V}, RelWs K ι H w v → Wd.ltAll ι.length w = true
  | _, _, .nil => rfl
  | _, _, .cons h hs => by
    show (Wd.lt ι.length _ && Wd.ltAll ι.length _) = true
    rw [RelW.lt h, RelWs.lt hs]; rfl
end
theorem KvOk.lt : ∀ {d : List (PyData × Wd)} {v : List (Key × V)}, KvOk K ι H d v → Wd.ltAll ι.length (d.map (·.2)) = true
  | [], [], _ => rfl
  | (_, w) :: r, (_, _) :: _, ⟨_, h2, h3⟩ => by
    show (Wd.lt ι.length w && Wd.ltAll ι.length (r.map (·.2))) = true
    rw [h2.lt, KvOk.lt h3]; rfl
  | [], _ :: _, h => h.elim
  | _ :: _, [], h => h.elim
theorem FsOk.lt : ∀ {d : List (Str × Wd)} {v : List (Str × V)}, FsOk K ι H d v → Wd.ltAll ι.length (d.map (·.2)) = true
  | [], [], _ => rfl
  | (_, w) :: r, (_, _) :: _, ⟨_, h2, h3⟩ => by
    show (Wd.lt ι.length w && Wd.ltAll ι.length (r.map (·.2))) = true
    rw [h2.lt, FsOk.lt h3]; rfl
  | [], _ :: _, h => h.elim
  | _ :: _, [], h => h.elim
theorem CellOk.lt {a : Addr} {c : Cell} (h : CellOk K ι H a c) : c.lt ι.length = true := by
  cases c with
  | lst xs => obtain ⟨_, _, r⟩ := h; exact r.lt
  | dct xs => obtain ⟨_, _, r⟩ := h; exact r.lt
  | ins c xs => obtain ⟨_, _, _, _, _, r⟩ := h; exact r.lt
  | tab x q => rfl
theorem MemOk.openS (mo : MemOk K ι m H) : MemOk K ι m.openS H := by
  refine ⟨mo.len, mo.nd, mo.cell, fun q hq => ?_, ?_, fun q hq n c hlt hd hc => ?_⟩
  · rcases List.mem_cons.mp hq with e | hq
    · subst e; exact Nat.le_refl _
    · exact mo.top q hq
  · show (m.cells.length :: m.stk.map (·.1)).Pairwise _
    refine List.pairwise_cons.mpr ⟨fun x hx => ?_, mo.ord⟩
    obtain ⟨q, hq, e⟩ := List.mem_map.mp hx
    subst e
    exact mo.top q hq
  · rcases List.mem_cons.mp hq with e | hq
    · subst e
      have hc' : m.cells[n]? = some c := hc
      have hn : n < ι.length := by rw [mo.len]; exact get_of hc'
      have := (mo.cell n _ c (List.getElem?_eq_getElem hn) hc').lt
      rw [mo.len] at this
      exact this
    · exact mo.clean q hq n c hlt hd hc
theorem take_get {α : Type} {l : List α} {b n : Nat} {x : α} (h : l[n]? = some x) (hn : n < b) : (l.take b)[n]? = some x := by
  rw [List.getElem?_take, if_pos hn]; exact h
mutual
theorem RelW.take {b : Nat} : ∀ {w : Wd} {v : V}, RelW K ι H w v → Wd.lt b w = true → RelW K (ι.take b) H w v
  | _, _, .d h, _ => .d h
  | _, _, .ref h, e => .ref (take_get h (of_decide_eq_true e))
  | _, _, .tup h hs, e => .tup h (RelWs.takeI hs e)
  | _, _, .rol h hs, e => .rol h (RelWs.takeI hs e)
  | _, _, .v x, _ => .v x
theorem RelWs.takeI {b : Nat} : ∀ {w : List Wd} {v : List V}, RelWs K ι H w v → Wd.ltAll b w = true → RelWs K (ι.take b) H w v
  | _, _, .nil, _ => .nil
  | _, _, .cons h hs, e => by
    have e' : (Wd.lt b _ && Wd.ltAll b _) = true := e
    rw [Bool.and_eq_true] at e'
    exact .cons (RelW.take h e'.1) (RelWs.takeI hs e'.2)
end
theorem KvOk.takeI {b : Nat} : ∀ {d : List (PyData × Wd)} {v : List (Key × V)}, KvOk K ι H d v → Wd.ltAll b (d.map (·.2)) = true → KvOk K (ι.take b) H d v
  | [], [], _, _ => True.intro
  | (_, w) :: r, (_, _) :: _, ⟨h1, h2, h3⟩, e => by
    have e' : (Wd.lt b w && Wd.ltAll b (r.map (·.2))) = true := e
    rw [Bool.and_eq_true] at e'
    exact ⟨h1, h2.take e'.1, KvOk.takeI h3 e'.2⟩
  | [], _ :: _, h, _ => h.elim
  | _ :: _, [], h, _ => h.elim
theorem FsOk.takeI {b : Nat} : ∀ {d : List (Str × Wd)} {v : List (Str × V)}, FsOk K ι H d v → Wd.ltAll b (d.map (·.2)) = true → FsOk K (ι.take b) H d v
  | [], [], _, _ => True.intro
  | (_, w) :: r, (_, _) :: _, ⟨h1, h2, h3⟩, e => by
    have e' : (Wd.lt b w && Wd.ltAll b (r.map (·.2))) = true := e
    rw [Bool.and_eq_true] at e'
    exact ⟨h1, h2.take e'.1, FsOk.takeI h3 e'.2⟩
  | [], _ :: _, h, _ => h.elim
  | _ :: _, [], h, _ => h.elim
theorem CellOk.takeI {a : Addr} {c : Cell} {b : Nat} (h : CellOk K ι H a c) (e : c.lt b = true) : CellOk K (ι.take b) H a c := by
  cases c with
  | lst xs => obtain ⟨vs, q, r⟩ := h; exact ⟨vs, q, r.takeI e⟩
  | dct xs => obtain ⟨vs, q, r⟩ := h; exact ⟨vs, q, r.takeI e⟩
  | ins c xs => obtain ⟨C, dx, vs, q0, q, r⟩ := h; exact ⟨C, dx, vs, q0, q, r.takeI e⟩
  | tab x q => exact h
theorem MemOk.closeS {n0 : Nat} {held : Bool} (mo : MemOk K ι m H) : ∃ ι2, ι2 <+: ι ∧ MemOk K ι2 (m.closeS n0 held) H ∧ (ι2 = ι ∨ (held = true ∧ ι2 = ι.take n0)) := by
  unfold Mm.closeS
  cases hs : m.stk with
  | nil => exact ⟨ι, List.prefix_refl _, mo, .inl rfl⟩
  | cons p r =>
    obtain ⟨b, ds⟩ := p
    have mr : MemOk K ι ⟨m.cells, r⟩ H := ⟨mo.len, mo.nd, mo.cell, fun q hq => mo.top q (by rw [hs]; exact List.mem_cons_of_mem _ hq), by have := mo.ord; rw [hs] at this; exact (List.pairwise_cons.mp this).2, fun q hq => mo.clean q (by rw [hs]; exact List.mem_cons_of_mem _ hq)⟩
    simp only []
    by_cases hb : (decide (b = n0) && held && ds.all fun n => decide (n0 ≤ n) || (match m.cells[n]? with | some c => c.lt n0 | none => true)) = true
    · rw [if_pos hb]
      rw [Bool.and_eq_true, Bool.and_eq_true] at hb
      obtain ⟨⟨e1, e2⟩, e3⟩ := hb
      have e1 := of_decide_eq_true e1
      subst e1
      have hle : b ≤ m.cells.length := mo.top (b, ds) (by rw [hs]; exact List.mem_cons_self)
      refine ⟨ι.take b, List.take_prefix _ _, ⟨by simp [mo.len], mo.nd.sublist (List.take_sublist _ _), fun n a c h1 h2 => ?_, fun q hq => ?_, mr.ord, fun q hq n c hlt hd hc => ?_⟩, .inr ⟨e2, rfl⟩⟩
      · have h2' : (m.cells.take b)[n]? = some c := h2
        have hn : n < b := by
          have := get_of h2'
          rw [List.length_take] at this
          omega
        rw [List.getElem?_take, if_pos hn] at h1 h2'
        refine (mo.cell n a c h1 h2').takeI ?_
        by_cases hd : n ∈ ds
        · have := List.all_eq_true.mp e3 n hd
          rw [Bool.or_eq_true] at this
          rcases this with z | z
          · exact absurd (of_decide_eq_true z) (by omega)
          · rw [h2'] at z; exact z
        · exact mo.clean (b, ds) (by rw [hs]; exact List.mem_cons_self) n c hn hd h2'
      · have := mo.ord
        rw [hs] at this
        have hq1 : q.1 ≤ b := (List.pairwise_cons.mp this).1 q.1 (List.mem_map.mpr ⟨q, hq, rfl⟩)
        show q.1 ≤ (m.cells.take b).length
        rw [List.length_take]
        omega
      · have hc' : (m.cells.take b)[n]? = some c := hc
        have hn : n < b := by
          have := get_of hc'
          rw [List.length_take] at this
          omega
        rw [List.getElem?_take, if_pos hn] at hc'
        exact mr.clean q hq n c hlt hd hc'
    · rw [if_neg hb]
      exact ⟨ι, List.prefix_refl _, mr, .inl rfl⟩
end
end DL
set_option Elab.async false
set_option linter.all false
set_option maxRecDepth 100000
set_option maxHeartbeats 2000000
namespace DL
open PySem PySem.Spec PyProof.Rows L2

def Rs.of {α : Type} : Option (α × Mm) → Rs α
  | some (a, m) => .ok a m
  | none => .stuck
@[simp] theorem Rs.of_some {α : Type} (a : α) (m : Mm) : Rs.of (some (a, m)) = .ok a m := rfl
@[simp] theorem Rs.of_none {α : Type} : Rs.of (none : Option (α × Mm)) = .stuck := rfl
/-- a value alone -/
def pureO {α : Type} (m : Mm) : Option α → Option (α × Mm)
  | some a => some (a, m)
  | none => none
@[simp] theorem pureO_some {α : Type} (m : Mm) (a : α) : pureO m (some a) = some (a, m) := rfl
@[simp] theorem pureO_none {α : Type} (m : Mm) : pureO m (none : Option α) = none := rfl
abbrev LIM : Nat := 16777216
theorem LIM_eq : LIM = sizeLine := sizeLine_eq.symm

theorem PEimp {X : Cx} {e : Expr} {t t' : TE} (h : PE X e t) (i : ∀ σ H Q, t' σ H Q → t σ H Q) : PE X e t' := ⟨fun pins s σ H Q I hw => h.run pins s σ H Q I (i σ H Q hw)⟩
theorem PTimp {X : Cx} {e : Expr} {t t' : TT} (h : PT X e t) (i : ∀ σ H Q, t' σ H Q → t σ H Q) : PT X e t' := ⟨fun pins s σ H Q I hw => h.run pins s σ H Q I (i σ H Q hw)⟩
theorem PWimp {X : Cx} {e : Expr} {t t' : TT} (h : PW X e t) (i : ∀ σ H Q, t' σ H Q → t σ H Q) : PW X e t' := ⟨fun wh pins s σ H Q I hw => h.run wh pins s σ H Q I (i σ H Q hw)⟩
theorem PAimp {X : Cx} {e : List Expr} {t t' : TA} (h : PA X e t) (i : ∀ σ H Q, t' σ H Q → t σ H Q) : PA X e t' := ⟨fun ps pins s σ H Q I hw => h.run ps pins s σ H Q I (i σ H Q hw)⟩
theorem PSimp {X : Cx} {e : Stmt} {t t' : TS} (h : PS X e t) (i : ∀ D σ H, t' D σ H → t D σ H) : PS X e t' := ⟨fun pins s σ H Q I hw => h.run pins s σ H Q I (i Q σ H hw)⟩
theorem PSsimp {X : Cx} {e : List Stmt} {t t' : TS} (h : PSs X e t) (i : ∀ D σ H, t' D σ H → t D σ H) : PSs X e t' := ⟨fun pins s σ H Q I hw => h.run pins s σ H Q I (i Q σ H hw)⟩
theorem OpRimp {X : Cx} {f : Value → Value → Sem Value} {r r' : R2} (h : OpR X f r) (i : ∀ x y H Q, r' x y H Q → r x y H Q) : OpR X f r' := fun pins s σ H x y v u Q I a b q => h pins s σ H x y v u Q I a b (i _ _ _ _ q)
theorem CallRimp {X : Cx} {f : Value} {r r' : List V → Hp → VK → Prop} (h : CallR X f r) (i : ∀ x H Q, r' x H Q → r x H Q) : CallR X f r' := fun pins s σ H x v Q I a q => h pins s σ H x v Q I a (i _ _ _ q)
theorem IxRimp {X : Cx} {r r' : R2} (h : IxR X r) (i : ∀ x y H Q, r' x y H Q → r x y H Q) : IxR X r' := fun va sl pins s σ H x y v u Q I a b q => h va sl pins s σ H x y v u Q I a b (i _ _ _ _ q)

section
variable {X : Cx} {W : L2.WX}
/-! ### expressions: what they compute -/
def eC (w : Wd) : Em Wd := fun _ m => .ok w m
def eV (i : Nat) : Em Wd := fun env m => match env[i]? with
  | some (some w) => .ok w m
  | _ => .stuck
def aN : Em (List Wd) := fun _ m => .ok [] m
def aC (f : Em Wd) (g : Em (List Wd)) : Em (List Wd) := fun env m => (f env m).bind fun w m => (g env m).bind fun ws m => .ok (w :: ws) m
abbrev Op1 := Wd → Mm → Option (Wd × Mm)
abbrev Op2 := Wd → Wd → Mm → Option (Wd × Mm)
abbrev OpN := List Wd → Mm → Option (Wd × Mm)
def e1 (g : Op1) (f : Em Wd) : Em Wd := fun env m => (f env m).bind fun a m => Rs.of (g a m)
def e2 (g : Op2) (fa fb : Em Wd) : Em Wd := fun env m => (fa env m).bind fun a m => (fb env m).bind fun b m => Rs.of (g a b m)
def eN (g : OpN) (f : Em (List Wd)) : Em Wd := fun env m => (f env m).bind fun ws m => Rs.of (g ws m)
/-- a def called -/
abbrev Fn := List Wd → Mm → Rs Wd
def eCall (n : Nat) (F : Fn) (f : Em (List Wd)) : Em Wd := fun env m => (f env m).bind fun ws m => if ws.length = n then F ws m else .stuck
def tupO : OpN := fun ws m => if ws.length ≤ LIM then some (mkTup ws, m) else none
def lstO : OpN := fun ws m => if ws.length ≤ LIM then some (.ref m.cells.length, m.push (.lst ws)) else none
/-- tests -/
def asB : Wd → Option Bool
  | .d (.bool b) => some b
  | _ => none
def truO (w : Wd) (m : Mm) : Option Bool := match w with
  | .d .none => some false
  | .d (.bool b) => some b
  | .d (.int i) => some (i != 0)
  | .d (.str x) => if x.length ≤ LIM then some ((x.length : Int) != 0) else none
  | .d (.tuple xs) => some (!xs.isEmpty)
  | .tup xs => some (!xs.isEmpty)
  | .rol xs => some (!xs.isEmpty)
  | .ref n => match m.cells[n]? with
    | some (.lst xs) => some (!xs.isEmpty)
    | some (.dct kvs) => some (!kvs.isEmpty)
    | _ => none
  | _ => none
def b2 (g : Op2) (fa fb : Em Wd) : Em Bool := fun env m => (e2 g fa fb env m).bind fun w m => match asB w with
  | some b => .ok b m
  | none => .stuck
def bV (f : Em Wd) : Em Bool := fun env m => (f env m).bind fun w m => match truO w m with
  | some b => .ok b m
  | none => .stuck
def bAnd (f g : Em Bool) : Em Bool := fun env m => (f env m).bind fun b m => if b = true then g env m else .ok false m
def bOr (f g : Em Bool) : Em Bool := fun env m => (f env m).bind fun b m => if b = true then .ok true m else g env m
def bNot (f : Em Bool) : Em Bool := fun env m => (f env m).bind fun b m => .ok (!b) m
def eIf (c : Em Bool) (f g : Em Wd) : Em Wd := fun env m => (c env m).bind fun b m => if b = true then f env m else g env m
def eAnd (f g : Em Wd) : Em Wd := fun env m => (f env m).bind fun w m => match truO w m with
  | some b => if b = true then g env m else .ok w m
  | none => .stuck
def eOr (f g : Em Wd) : Em Wd := fun env m => (f env m).bind fun w m => match truO w m with
  | some b => if b = true then .ok w m else g env m
  | none => .stuck
def eNot (f : Em Wd) : Em Wd := fun env m => (f env m).bind fun w m => match truO w m with
  | some b => .ok (.d (.bool (!b))) m
  | none => .stuck
/-- a < b < c -/
def eCh (g g' : Op2) (fa fb fc : Em Wd) : Em Wd := fun env m => (fa env m).bind fun a m => (fb env m).bind fun b m => (Rs.of (g a b m)).bind fun z m => match asB z with
  | some k => if k = true then (fc env m).bind fun c m => Rs.of (g' b c m) else .ok (.d (.bool false)) m
  | none => .stuck

/-! ### by values -/
section
variable (K : PySem.W.Frag)
def rO1 (g : Op1) : V → Hp → VK → Prop := fun x H Q => ∃ ι m a, MemOk K ι m H ∧ RelW K ι H a x ∧ Post K W0 (RelW K) ι H [] Q (Rs.of (g a m))
def rO (g : Op2) : R2 := fun x y H Q => ∃ ι m a b, MemOk K ι m H ∧ RelW K ι H a x ∧ RelW K ι H b y ∧ Post K W0 (RelW K) ι H [] Q (Rs.of (g a b m))
def rON (g : OpN) : List V → Hp → VK → Prop := fun xs H Q => ∃ ι m ws, MemOk K ι m H ∧ RelWs K ι H ws xs ∧ Post K W0 (RelW K) ι H [] Q (Rs.of (g ws m))
/-- a def's promise -/
def spD (n : Nat) (F : Fn) : Sp := fun vs H Q E => ∃ ι m ws, vs.length = n ∧ MemOk K ι m H ∧ RelWs K ι H ws vs ∧ Post K (fun cls d _ H' => E cls d H') (RelW K) ι H [] Q (F ws m)
end
theorem Post.w0 {K : PySem.W.Frag} {α β : Type} {rel : List Addr → Hp → α → β → Prop} {ι : List Addr} {H : Hp} {σ σ' : L2.St} {Q : β → Hp → Prop} {r : Option (α × Mm)} (h : Post K W rel ι H σ Q (Rs.of r)) : Post K W0 rel ι H σ' Q (Rs.of r) := by
  cases r with
  | none => exact h
  | some p => exact h
theorem post_ok {K : PySem.W.Frag} {α β : Type} {rel : List Addr → Hp → α → β → Prop} {ι : List Addr} {H : Hp} {σ : L2.St} {Q : β → Hp → Prop} {a : α} {b : β} {m : Mm} (h : Post K W rel ι H σ Q (.ok a m)) (mo : MemOk K ι m H) (r : rel ι H a b) : Q b H := h ι H b .refl mo r
theorem RelW.d' {K : PySem.W.Frag} {ι : List Addr} {H : Hp} {x : PyData} {v : V} (h : RelW K ι H (.d x) v) : RelD K H x v := by cases h with | d h => exact h
theorem relW_bl {K : PySem.W.Frag} {ι : List Addr} {H : Hp} {b : Bool} {v : V} (h : RelW K ι H (.d (.bool b)) v) : v = .bl b := by cases h.d'; rfl
theorem relW_int {K : PySem.W.Frag} {ι : List Addr} {H : Hp} {b : Int} {v : V} (h : RelW K ι H (.d (.int b)) v) : v = .int b := by cases h.d'; rfl
theorem relW_str {K : PySem.W.Frag} {ι : List Addr} {H : Hp} {b : Str} {v : V} (h : RelW K ι H (.d (.str b)) v) : v = .str b := by cases h.d'; rfl
theorem relW_non {K : PySem.W.Frag} {ι : List Addr} {H : Hp} {v : V} (h : RelW K ι H (.d .none) v) : v = .non := by cases h.d'; rfl
theorem relW_ref {K : PySem.W.Frag} {ι : List Addr} {H : Hp} {n : Nat} {v : V} (h : RelW K ι H (.ref n) v) : ∃ a, v = .ref a ∧ ι[n]? = some a := by cases h with | ref h => exact ⟨_, rfl, h⟩
theorem asB_ok {w : Wd} {b : Bool} (h : asB w = some b) : w = .d (.bool b) := by
  unfold asB at h
  split at h
  · cases h; rfl
  · cases h
theorem truO_ok {K : PySem.W.Frag} {ι : List Addr} {H : Hp} {m : Mm} {w : Wd} {v : V} {b : Bool} (mo : MemOk K ι m H) (r : RelW K ι H w v) (h : truO w m = some b) : TruV K v H b := by
  cases r with
  | d r =>
    cases r with
    | non => cases h; rfl
    | bl _ => cases h; rfl
    | int _ => cases h; rfl
    | str x =>
      simp only [truO] at h
      split at h
      · cases h; exact ⟨by rw [← LIM_eq]; assumption, rfl⟩
      · cases h
    | tup q qs =>
      cases h
      refine .inr (.inl ⟨_, q, ?_⟩)
      cases qs <;> rfl
  | tup q qs =>
    cases h
    refine .inr (.inl ⟨_, q, ?_⟩)
    cases qs <;> rfl
  | rol q qs =>
    cases h
    refine .inl ⟨_, q.sqL, ?_⟩
    cases qs <;> rfl
  | ref e =>
    simp only [truO] at h
    split at h
    · rename_i xs hc
      cases h
      obtain ⟨vs, e1, rs⟩ := mo.cell _ _ _ e hc
      refine .inl ⟨vs, SqL.of e1, ?_⟩
      cases rs <;> rfl
    · rename_i kvs hc
      cases h
      obtain ⟨vs, e1, rs⟩ := mo.cell _ _ _ e hc
      refine .inr (.inr ⟨vs, e1, ?_⟩)
      cases kvs <;> cases vs <;> first | rfl | exact rs.elim
    · cases h
  | v x => cases h

/-! ### the rules -/
theorem de_C {e : Expr} {v : V} {w : Wd} (h : PE X e (tC v)) (r : ∀ ι H, RelW X.K ι H w v) : PE X e (tE X.K W (eC w)) :=
  PEimp h fun σ H Q ⟨ι, env, m, eo, mo, p⟩ => post_ok p mo (r _ _)
theorem de_int {i : Int} {j pos} : PE X (.Constant (.int i) j pos) (tE X.K W (eC (.d (.int i)))) := de_C pe_int fun _ _ => .d (.int i)
theorem de_bool {i : Bool} {j pos} : PE X (.Constant (.bool i) j pos) (tE X.K W (eC (.d (.bool i)))) := de_C pe_bl fun _ _ => .d (.bl i)
theorem de_str {i : Str} {j pos} : PE X (.Constant (.str i) j pos) (tE X.K W (eC (.d (.str i)))) := de_C pe_str fun _ _ => .d (.str i)
theorem de_none {j pos} : PE X (.Constant .none j pos) (tE X.K W (eC (.d .none))) := de_C pe_non fun _ _ => .d .non
theorem de_V {e : Expr} {i : Nat} (h : PE X e (tVar i)) : PE X e (tE X.K W (eV i)) :=
  PEimp h fun σ H Q ⟨ι, env, m, eo, mo, p⟩ => by
    unfold eV at p
    cases q : env[i]? with
    | none => rw [q] at p; exact p.elim
    | some o =>
      cases o with
      | none => rw [q] at p; exact p.elim
      | some w =>
        rw [q] at p
        obtain ⟨v, e1, r⟩ := eo.2 i w q
        exact ⟨v, e1, post_ok p mo r⟩
/-- a module's constant -/
theorem de_G {x : Str} {u : Value} {v : V} {w : Wd} {pos : Pos} (hg : Gl X x) (hm : X.mg x = some u) (rv : RelV v u) (r : ∀ ι H, RelW X.K ι H w v) (hd : (x == ("__debug__" : Str)) = false := by decide) : PE X (.Name x pos) (tE X.K W (eC w)) :=
  de_C (pe_glob hg hm rv hd) r
theorem da_nil : PA X [] (tA X.K W aN) := PAimp pa_nil fun σ H Q ⟨ι, env, m, eo, mo, p⟩ => post_ok p mo .nil
theorem da_cons {e : Expr} {es : List Expr} {f : Em Wd} {g : Em (List Wd)} (ha : PE X e (tE X.K W f)) (hb : PA X es (tA X.K W g)) (hs : starEach (e :: es) X.env = (false, eval e X.env) :: starEach es X.env := by rfl) : PA X (e :: es) (tA X.K W (aC f g)) :=
  PAimp (pa_cons ha hb hs) fun σ H Q ⟨ι, env, m, eo, mo, p⟩ => Post.bind eo mo p fun ι1 H1 a x m1 st1 mo1 eo1 ra p1 => Post.bind eo1 mo1 p1 fun ι2 H2 b y m2 st2 mo2 eo2 rb p2 => post_ok p2 mo2 (.cons (ra.step mo1.apart st2) rb)
theorem post_e2 {K : PySem.W.Frag} {g : Op2} {fa fb : Em Wd} {ι : List Addr} {env : Env} {m : Mm} {H : Hp} {σ : L2.St} {Q : VK} (eo : EnvOk K ι H env σ) (mo : MemOk K ι m H) (p : Post K W (RelW K) ι H σ Q (e2 g fa fb env m)) : tE K W fa σ H fun x H1 => tE K W fb σ H1 fun y H2 => rO K g x y H2 Q :=
  Post.bind eo mo p fun ι1 H1 a x m1 st1 mo1 eo1 ra p1 => Post.bind eo1 mo1 p1 fun ι2 H2 b y m2 st2 mo2 eo2 rb p2 => ⟨ι2, m2, a, b, mo2, ra.step mo1.apart st2, rb, p2.w0⟩
theorem de_bin {a b : Expr} {op : Operator} {g : Op2} {fa fb : Em Wd} {pos : Pos} (ho : OpR X (binaryOp op) (rO X.K g)) (ha : PE X a (tE X.K W fa)) (hb : PE X b (tE X.K W fb)) : PE X (.BinOp a op b pos) (tE X.K W (e2 g fa fb)) :=
  PEimp (pe_op ho ha hb) fun σ H Q ⟨ι, env, m, eo, mo, p⟩ => post_e2 eo mo p
theorem de_cmp {a b : Expr} {op : CmpOp} {g : Op2} {fa fb : Em Wd} {pos : Pos} (ho : OpR X (compareOp op) (rO X.K g)) (ha : PE X a (tE X.K W fa)) (hb : PE X b (tE X.K W fb)) (hm : behindInMarks op b = false) : PE X (.Compare a [op] [b] pos) (tE X.K W (e2 g fa fb)) :=
  PEimp (pe_cmpR ho ha hb hm) fun σ H Q ⟨ι, env, m, eo, mo, p⟩ => post_e2 eo mo p
theorem dt_cmp {a b : Expr} {op : CmpOp} {g : Op2} {fa fb : Em Wd} {pos : Pos} (ho : OpR X (compareOp op) (rO X.K g)) (ha : PE X a (tE X.K W fa)) (hb : PE X b (tE X.K W fb)) (hm : behindInMarks op b = false) : PT X (.Compare a [op] [b] pos) (tT X.K W (b2 g fa fb)) := by
  refine PTimp (pt_cmpR ho ha hb hm) fun σ H Q ⟨ι, env, m, eo, mo, p⟩ => ?_
  refine post_e2 (Q := fun x H' => ∃ k, x = .bl k ∧ Q k H') eo mo ?_
  unfold b2 at p
  cases q : e2 g fa fb env m with
  | stuck => rw [q] at p; exact p
  | exc x m1 => rw [q] at p; exact p
  | ok w m1 =>
    rw [q] at p
    simp only [Rs.bind_ok] at p
    cases q2 : asB w with
    | none => rw [q2] at p; exact p.elim
    | some b =>
      rw [q2] at p
      have := asB_ok q2
      subst this
      exact fun ι' H' v st mo' r => ⟨b, relW_bl r, p ι' H' b st mo' rfl⟩
theorem post_eCh {K : PySem.W.Frag} {g g' : Op2} {fa fb fc : Em Wd} {ι : List Addr} {env : Env} {m : Mm} {H : Hp} {σ : L2.St} {Q : VK} (eo : EnvOk K ι H env σ) (mo : MemOk K ι m H) (p : Post K W (RelW K) ι H σ Q (eCh g g' fa fb fc env m)) :
    tChain (rO K g) (rO K g') (tE K W fa) (tE K W fb) (tE K W fc) σ H Q :=
  Post.bind eo mo p fun ι1 H1 a x m1 st1 mo1 eo1 ra p1 => Post.bind eo1 mo1 p1 fun ι2 H2 b y m2 st2 mo2 eo2 rb p2 => ⟨ι2, m2, a, b, mo2, ra.step mo1.apart st2, rb, by
    cases q : g a b m2 with
    | none => rw [q] at p2; exact p2
    | some z =>
      obtain ⟨z, m3⟩ := z
      rw [q] at p2
      simp only [Rs.of_some, Rs.bind_ok] at p2
      intro ι3 H3 v st3 mo3 rz
      cases q2 : asB z with
      | none => rw [q2] at p2; exact p2.elim
      | some k =>
        rw [q2] at p2
        have e := asB_ok q2
        subst e
        refine ⟨k, relW_bl rz, ?_⟩
        cases k with
        | false => exact p2 ι3 H3 _ st3 mo3 (.d (.bl false))
        | true =>
          simp only [if_true] at p2 ⊢
          exact Post.bind (eo2.step mo2.apart st3) mo3 (p2.step st3) fun ι4 H4 c zz m4 st4 mo4 eo4 rc p4 => ⟨ι4, m4, b, c, mo4, (rb.step mo2.apart st3).step mo3.apart st4, rc, p4.w0⟩⟩
theorem de_chain {a b c : Expr} {op op' : CmpOp} {g g' : Op2} {fa fb fc : Em Wd} {pos : Pos} (ho : OpR X (compareOp op) (rO X.K g)) (ho' : OpR X (compareOp op') (rO X.K g')) (ha : PE X a (tE X.K W fa)) (hb : PE X b (tE X.K W fb)) (hc : PE X c (tE X.K W fc))
    (hm : lastMarks [op, op'] [b, c] = false := by with_unfolding_all rfl) : PE X (.Compare a [op, op'] [b, c] pos) (tE X.K W (eCh g g' fa fb fc)) :=
  PEimp (pe_chain ho ho' ha hb hc hm) fun σ H Q ⟨ι, env, m, eo, mo, p⟩ => post_eCh eo mo p
def bCh (g g' : Op2) (fa fb fc : Em Wd) : Em Bool := fun env m => (eCh g g' fa fb fc env m).bind fun w m => match asB w with
  | some b => .ok b m
  | none => .stuck
theorem dt_chain {a b c : Expr} {op op' : CmpOp} {g g' : Op2} {fa fb fc : Em Wd} {pos : Pos} (ho : OpR X (compareOp op) (rO X.K g)) (ho' : OpR X (compareOp op') (rO X.K g')) (ha : PE X a (tE X.K W fa)) (hb : PE X b (tE X.K W fb)) (hc : PE X c (tE X.K W fc))
    (hm : lastMarks [op, op'] [b, c] = false := by with_unfolding_all rfl) : PT X (.Compare a [op, op'] [b, c] pos) (tT X.K W (bCh g g' fa fb fc)) := by
  refine PTimp (pt_chain ho ho' ha hb hc hm) fun σ H Q ⟨ι, env, m, eo, mo, p⟩ => ?_
  refine post_eCh (Q := fun x H' => ∃ k, x = .bl k ∧ Q k H') eo mo ?_
  unfold bCh at p
  cases q : eCh g g' fa fb fc env m with
  | stuck => rw [q] at p; exact p
  | exc x m1 => rw [q] at p; exact p
  | ok w m1 =>
    rw [q] at p
    simp only [Rs.bind_ok] at p
    cases q2 : asB w with
    | none => rw [q2] at p; exact p.elim
    | some b =>
      rw [q2] at p
      have := asB_ok q2
      subst this
      exact fun ι' H' v st mo' r => ⟨b, relW_bl r, p ι' H' b st mo' rfl⟩
/-- a unary operator -/
theorem de_un {a : Expr} {op : UnaryOp} {g : Op1} {fa : Em Wd} {pos : Pos} (ho : UnR X (unaryOp op) (rO1 X.K g)) (ha : PE X a (tE X.K W fa)) : PE X (.UnaryOp op a pos) (tE X.K W (e1 g fa)) :=
  PEimp (pe_un ho ha) fun σ H Q ⟨ι, env, m, eo, mo, p⟩ => Post.bind eo mo p fun ι1 H1 a x m1 st1 mo1 eo1 ra p1 => ⟨ι1, m1, a, mo1, ra, p1.w0⟩
/-- tests -/
theorem dt_val {e : Expr} {f : Em Wd} (h : PE X e (tE X.K W f)) (he : ∀ whole, isTrue e X.env whole = (do let v ← whole; standAt e.pos; holding [v] (truthy v)) := by intro _; rfl) : PT X e (tT X.K W (bV f)) :=
  PTimp (pt_truth h he) fun σ H Q ⟨ι, env, m, eo, mo, p⟩ => Post.bind eo mo p fun ι1 H1 a x m1 st1 mo1 eo1 ra p1 => by
    cases q : truO a m1 with
    | none => simp only [q] at p1; exact p1.elim
    | some b => simp only [q] at p1; exact ⟨b, truO_ok mo1 ra q, post_ok p1 mo1 rfl⟩
theorem tB_and {K : PySem.W.Frag} {f g : Em Bool} {σ : L2.St} {H : Hp} {Q : Bool → Hp → Prop} (h : tT K W (bAnd f g) σ H Q) : tAnd (tT K W f) (tT K W g) σ H Q := by
  obtain ⟨ι, env, m, eo, mo, p⟩ := h
  refine Post.bind eo mo p fun ι1 H1 a x m1 st1 mo1 eo1 ra p1 => ?_
  subst ra
  cases a with
  | true => exact ⟨ι1, env, m1, eo1, mo1, p1⟩
  | false => exact post_ok p1 mo1 rfl
theorem tB_or {K : PySem.W.Frag} {f g : Em Bool} {σ : L2.St} {H : Hp} {Q : Bool → Hp → Prop} (h : tT K W (bOr f g) σ H Q) : tOr (tT K W f) (tT K W g) σ H Q := by
  obtain ⟨ι, env, m, eo, mo, p⟩ := h
  refine Post.bind eo mo p fun ι1 H1 a x m1 st1 mo1 eo1 ra p1 => ?_
  subst ra
  cases a with
  | true => exact post_ok p1 mo1 rfl
  | false => exact ⟨ι1, env, m1, eo1, mo1, p1⟩
theorem dw_and1 {a : Expr} {pos : Pos} {f : Em Bool} (h : PT X a (tT X.K W f)) : PW X (.BoolOp .And [a] pos) (tT X.K W f) := pw_and1 h
theorem dw_or1 {a : Expr} {pos : Pos} {f : Em Bool} (h : PT X a (tT X.K W f)) : PW X (.BoolOp .Or [a] pos) (tT X.K W f) := pw_or1 h
theorem dw_and {a b : Expr} {rest : List Expr} {pos : Pos} {f g : Em Bool} (h : PT X a (tT X.K W f)) (h2 : PW X (.BoolOp .And (b :: rest) pos) (tT X.K W g)) : PW X (.BoolOp .And (a :: b :: rest) pos) (tT X.K W (bAnd f g)) := PWimp (pw_and h h2) fun _ _ _ => tB_and
theorem dw_or {a b : Expr} {rest : List Expr} {pos : Pos} {f g : Em Bool} (h : PT X a (tT X.K W f)) (h2 : PW X (.BoolOp .Or (b :: rest) pos) (tT X.K W g)) : PW X (.BoolOp .Or (a :: b :: rest) pos) (tT X.K W (bOr f g)) := PWimp (pw_or h h2) fun _ _ _ => tB_or
theorem dt_not {a : Expr} {pos : Pos} {f : Em Bool} (h : PT X a (tT X.K W f)) : PT X (.UnaryOp .Not a pos) (tT X.K W (bNot f)) :=
  PTimp (pt_not h) fun σ H Q ⟨ι, env, m, eo, mo, p⟩ => Post.bind eo mo p fun ι1 H1 a x m1 st1 mo1 eo1 ra p1 => post_ok p1 mo1 (by rw [ra])
theorem de_if {a b c : Expr} {pos : Pos} {ft : Em Bool} {fa fb : Em Wd} (hc : PT X c (tT X.K W ft)) (ha : PE X a (tE X.K W fa)) (hb : PE X b (tE X.K W fb)) : PE X (.IfExp c a b pos) (tE X.K W (eIf ft fa fb)) :=
  PEimp (pe_ifExp hc ha hb) fun σ H Q ⟨ι, env, m, eo, mo, p⟩ => Post.bind eo mo p fun ι1 H1 a x m1 st1 mo1 eo1 ra p1 => by
    subst ra
    cases a with
    | true => exact ⟨ι1, env, m1, eo1, mo1, p1⟩
    | false => exact ⟨ι1, env, m1, eo1, mo1, p1⟩
theorem de_one {a : Expr} {op : BoolOp} {pos : Pos} {f : Em Wd} (h : PE X a (tE X.K W f)) : PE X (.BoolOp op [a] pos) (tE X.K W f) := pe_one h
theorem de_and {a b : Expr} {rest : List Expr} {pos : Pos} {f g : Em Wd} (h : PE X a (tE X.K W f)) (h2 : PE X (.BoolOp .And (b :: rest) pos) (tE X.K W g)) : PE X (.BoolOp .And (a :: b :: rest) pos) (tE X.K W (eAnd f g)) :=
  PEimp (pe_andT h h2) fun σ H Q ⟨ι, env, m, eo, mo, p⟩ => Post.bind eo mo p fun ι1 H1 a x m1 st1 mo1 eo1 ra p1 => by
    cases q : truO a m1 with
    | none => simp only [q] at p1; exact p1.elim
    | some b =>
      simp only [q] at p1
      refine ⟨b, truO_ok mo1 ra q, ?_⟩
      cases b with
      | true => exact ⟨ι1, env, m1, eo1, mo1, p1⟩
      | false => exact post_ok p1 mo1 ra
theorem de_or {a b : Expr} {rest : List Expr} {pos : Pos} {f g : Em Wd} (h : PE X a (tE X.K W f)) (h2 : PE X (.BoolOp .Or (b :: rest) pos) (tE X.K W g)) : PE X (.BoolOp .Or (a :: b :: rest) pos) (tE X.K W (eOr f g)) :=
  PEimp (pe_orT h h2) fun σ H Q ⟨ι, env, m, eo, mo, p⟩ => Post.bind eo mo p fun ι1 H1 a x m1 st1 mo1 eo1 ra p1 => by
    cases q : truO a m1 with
    | none => simp only [q] at p1; exact p1.elim
    | some b =>
      simp only [q] at p1
      refine ⟨b, truO_ok mo1 ra q, ?_⟩
      cases b with
      | false => exact ⟨ι1, env, m1, eo1, mo1, p1⟩
      | true => exact post_ok p1 mo1 ra
theorem de_not {a : Expr} {pos : Pos} {f : Em Wd} (h : PE X a (tE X.K W f)) : PE X (.UnaryOp .Not a pos) (tE X.K W (eNot f)) :=
  PEimp (pe_notT h) fun σ H Q ⟨ι, env, m, eo, mo, p⟩ => Post.bind eo mo p fun ι1 H1 a x m1 st1 mo1 eo1 ra p1 => by
    cases q : truO a m1 with
    | none => simp only [q] at p1; exact p1.elim
    | some b => simp only [q] at p1; exact ⟨b, truO_ok mo1 ra q, post_ok p1 mo1 (.d (.bl _))⟩
/-- displays -/
theorem de_tup {es : List Expr} {x1 pos} {f : Em (List Wd)} (h : PA X es (tA X.K W f)) : PE X (.Tuple es x1 pos) (tE X.K W (eN tupO f)) :=
  PEimp (pe_tup h) fun σ H Q ⟨ι, env, m, eo, mo, p⟩ => Post.bind eo mo p fun ι1 H1 ws xs m1 st1 mo1 eo1 ra p1 => by
    unfold tupO at p1
    by_cases hl : ws.length ≤ LIM
    · rw [if_pos hl] at p1
      have hl' : xs.length ≤ sizeLine := by rw [← ra.length, ← LIM_eq]; exact hl
      exact ⟨hl', fun q hq => p1 ι1 _ _ (stp_tup hq) (mo1.tup hq) (mkTup_ok (SqT.of upd_same) (ra.step mo1.apart (stp_tup hq)))⟩
    · rw [if_neg hl] at p1; exact p1.elim
theorem cell_new {K : PySem.W.Frag} {ι : List Addr} {H : Hp} {m : Mm} {q : Addr} {ws : List Wd} {xs : List V} (mo : MemOk K ι m H) (hq : H q = none) (ra : RelWs K ι H ws xs) : MemOk K (ι ++ [q]) (m.push (.lst ws)) (upd H q (.lst xs)) ∧ RelW K (ι ++ [q]) (upd H q (.lst xs)) (.ref m.cells.length) (.ref q) :=
  ⟨mo.push hq ⟨xs, upd_same, ra.step mo.apart (stp_new hq)⟩, .ref (by rw [← mo.len]; simp)⟩
theorem de_lst {es : List Expr} {pos} {f : Em (List Wd)} (h : PA X es (tA X.K W f)) : PE X (.List es pos) (tE X.K W (eN lstO f)) :=
  PEimp (pe_lst h) fun σ H Q ⟨ι, env, m, eo, mo, p⟩ => Post.bind eo mo p fun ι1 H1 ws xs m1 st1 mo1 eo1 ra p1 => by
    unfold lstO at p1
    by_cases hl : ws.length ≤ LIM
    · rw [if_pos hl] at p1
      have hl' : xs.length ≤ sizeLine := by rw [← ra.length, ← LIM_eq]; exact hl
      exact ⟨hl', fun q hq => let ⟨a, b⟩ := cell_new mo1 hq ra; p1 _ _ _ (stp_new hq) a b⟩
    · rw [if_neg hl] at p1; exact p1.elim
/-- calls -/
theorem de_call {k n : Nat} {f : Addr} {fd : FuncData} {ps : List Str} {F : Fn} {x : Str} {p pos : Pos} {e : Expr} {es : List Expr} {fa : Em (List Wd)} (tk : Takes X W) (G : FnOk X.prog X.w X.K X.mg X.base (L2.CX X.prog X.w) k f fd ps (spD X.K n F)) (hr : Room k X.A) (hg : Gl X x) (hm : X.mg x = some (.ref f)) (hk : PySem.W.keepIn X.K (.ref f) = true) (hb : Binds X.K fd ps [])
    (ha : PA X (e :: es) (tA X.K W fa)) (hdb : (x == ("__debug__" : Str)) = false := by decide) (he : starEach (e :: es) X.env = (false, eval e X.env) :: starEach es X.env := by rfl) (hpl : (backTo pos (starEach es X.env)).any (·.1) = false := by rfl) :
    PE X (.Call (.Name x p) (e :: es) [] pos) (tE X.K W (eCall n F fa)) :=
  PEimp (pe_callS (E := WE W) G hr hg hm hk hb (fun σ => passAt tk σ) ha hdb he hpl) fun σ H Q ⟨ι, env, m, eo, mo, p⟩ => Post.bind eo mo p fun ι1 H1 ws xs m1 st1 mo1 eo1 ra p1 => by
    by_cases hl : ws.length = n
    · rw [if_pos hl] at p1
      refine ⟨ι1, m1, ws, by rw [← ra.length]; exact hl, mo1, ra, ?_⟩
      cases q : F ws m1 with
      | ok a m2 => rw [q] at p1; exact p1
      | exc x m2 => rw [q] at p1; exact p1
      | stuck => rw [q] at p1; exact p1
    · rw [if_neg hl] at p1; exact p1.elim
theorem de_callB {id : String} {g : OpN} {x : Str} {p pos : Pos} {e : Expr} {es : List Expr} {fa : Em (List Wd)} (hc : CallR X (.builtin id) (rON X.K g)) (hg : Gl X x) (hm : X.mg x = none) (hv : bootBuiltins x = some (.builtin id)) (ha : PA X (e :: es) (tA X.K W fa)) (hn : x ≠ "__name__" := by decide) (hdb : (x == ("__debug__" : Str)) = false := by decide)
    (he : starEach (e :: es) X.env = (false, eval e X.env) :: starEach es X.env := by rfl) (hpl : (backTo pos (starEach es X.env)).any (·.1) = false := by rfl) : PE X (.Call (.Name x p) (e :: es) [] pos) (tE X.K W (eN g fa)) :=
  PEimp (pe_callB hc hg hm hv ha hn hdb he hpl) fun σ H Q ⟨ι, env, m, eo, mo, p⟩ => Post.bind eo mo p fun ι1 H1 ws xs m1 st1 mo1 eo1 ra p1 => ⟨ι1, m1, ws, mo1, ra, p1.w0⟩
theorem de_callT {T : String} {g : OpN} {x : Str} {p pos : Pos} {e : Expr} {es : List Expr} {fa : Em (List Wd)} (hc : CallR X (.type T) (rON X.K g)) (hg : Gl X x) (hm : X.mg x = none) (hv : bootBuiltins x = some (.type T)) (ha : PA X (e :: es) (tA X.K W fa)) (hn : x ≠ "__name__" := by decide) (hdb : (x == ("__debug__" : Str)) = false := by decide)
    (he : starEach (e :: es) X.env = (false, eval e X.env) :: starEach es X.env := by rfl) (hpl : (backTo pos (starEach es X.env)).any (·.1) = false := by rfl) : PE X (.Call (.Name x p) (e :: es) [] pos) (tE X.K W (eN g fa)) :=
  PEimp (pe_callTy hc hg hm hv ha hn hdb he hpl) fun σ H Q ⟨ι, env, m, eo, mo, p⟩ => Post.bind eo mo p fun ι1 H1 ws xs m1 st1 mo1 eo1 ra p1 => ⟨ι1, m1, ws, mo1, ra, p1.w0⟩
/-- an item -/
theorem de_ix {a b : Expr} {g : Op2} {fa fb : Em Wd} {pos : Pos} (hr : IxR X (rO X.K g)) (ha : PE X a (tE X.K W fa)) (hb : PE X b (tE X.K W fb)) (hs : PlainIx b) : PE X (.Subscript a b pos) (tE X.K W (e2 g fa fb)) :=
  PEimp (pe_ix hr ha hb hs) fun σ H Q ⟨ι, env, m, eo, mo, p⟩ => post_e2 eo mo p
end
end DL
set_option Elab.async false
set_option linter.all false
set_option maxRecDepth 100000
set_option maxHeartbeats 2000000
namespace DL
open PySem PySem.Spec PyProof.Rows L2

/-! ### statements: what they do -/
def rs {α : Type} (r : Rs α) (env : Env) (k : α → Mm → Sr) : Sr := match r with
  | .ok a m => k a m
  | .exc x m => .exc x env m
  | .stuck => .stuck
@[simp] theorem rs_ok {α : Type} (a : α) (m : Mm) (env : Env) (k : α → Mm → Sr) : rs (.ok a m) env k = k a m := rfl
@[simp] theorem rs_exc {α : Type} (x : Ex) (m : Mm) (env : Env) (k : α → Mm → Sr) : rs (.exc x m) env k = .exc x env m := rfl
@[simp] theorem rs_stuck {α : Type} (env : Env) (k : α → Mm → Sr) : rs (.stuck : Rs α) env k = .stuck := rfl
def Sr.seq (r : Sr) (g : Sm) : Sr := match r with
  | .go .nx e m => g e m
  | r => r
@[simp] theorem seq_nx (e : Env) (m : Mm) (g : Sm) : (Sr.go .nx e m).seq g = g e m := rfl
@[simp] theorem seq_rt (w : Wd) (e : Env) (m : Mm) (g : Sm) : (Sr.go (.rt w) e m).seq g = .go (.rt w) e m := rfl
@[simp] theorem seq_bk (e : Env) (m : Mm) (g : Sm) : (Sr.go .bk e m).seq g = .go .bk e m := rfl
@[simp] theorem seq_ct (e : Env) (m : Mm) (g : Sm) : (Sr.go .ct e m).seq g = .go .ct e m := rfl
@[simp] theorem seq_exc (x : Ex) (e : Env) (m : Mm) (g : Sm) : (Sr.exc x e m).seq g = .exc x e m := rfl
@[simp] theorem seq_stuck (g : Sm) : Sr.stuck.seq g = .stuck := rfl
def sSeq (f g : Sm) : Sm := fun env m => (f env m).seq g
def sNop : Sm := fun env m => .go .nx env m
def sDrop (f : Em Wd) : Sm := fun env m => rs (f env m) env fun _ m => .go .nx env m
def sRet (f : Em Wd) : Sm := fun env m => rs (f env m) env fun w m => .go (.rt w) env m
def sRetN : Sm := fun env m => .go (.rt (.d .none)) env m
def sBk : Sm := fun env m => .go .bk env m
def sCt : Sm := fun env m => .go .ct env m
def sIf (c : Em Bool) (f g : Sm) : Sm := fun env m => rs (c env m) env fun b m => if b = true then f env m else g env m
def sSet (i : Nat) (f : Em Wd) : Sm := fun env m => rs (f env m) env fun w m => .go .nx (env.set i (some w)) m
/-- targets: names, tuples of targets -/
inductive Tg where
  | name (i : Nat) | tup (ts : List Tg)
mutual
def Tg.put : Tg → Wd → Env → Option Env
  | .name i, w, env => some (env.set i (some w))
  | .tup ts, w, env => (tupOf w).bind fun ws => Tg.putAll ts ws env
def Tg.putAll : List Tg → List Wd → Env → Option Env
  | [], [], env => some env
  | t :: ts, w :: ws, env => (Tg.put t w env).bind fun env => Tg.putAll ts ws env
  | _, _, _ => none
end
mutual
def Tg.slots : Tg → List Nat
  | .name i => [i]
  | .tup ts => Tg.slotsAll ts
def Tg.slotsAll : List Tg → List Nat
  | [] => []
  | t :: ts => Tg.slots t ++ Tg.slotsAll ts
end
def sAsg (t : Tg) (f : Em Wd) : Sm := fun env m => rs (f env m) env fun w m => match t.put w env with
  | some env => .go .nx env m
  | none => .stuck
/-- slots that are not looked at any more -/
def forget : List Nat → Env → Env
  | [], env => env
  | i :: r, env => (forget r env).set i none
def sForget (is : List Nat) (f : Sm) : Sm := fun env m => (f env m).seq fun env m => .go .nx (forget is env) m
def envLt (k : Nat) : Env → Bool
  | [] => true
  | none :: r => envLt k r
  | some w :: r => w.lt k && envLt k r
/-- a scope of its own -/
def Sr.close (n0 : Nat) : Sr → Sr
  | .go .nx e m => .go .nx e (m.closeS n0 (envLt n0 e))
  | .go .bk e m => .go .bk e (m.closeS n0 (envLt n0 e))
  | .go .ct e m => .go .ct e (m.closeS n0 (envLt n0 e))
  | .go (.rt w) e m => .go (.rt w) e (m.closeS n0 (w.lt n0))
  | .exc x e m => .exc x e (m.closeS n0 false)
  | .stuck => .stuck
def sScope (f : Sm) : Sm := fun env m => (f env m.openS).close m.cells.length
/-- a body, entered -/
def startE (n : Nat) (ws : List Wd) : Env := ws.map some ++ List.replicate (n - ws.length) none
def runF (n : Nat) (b : Sm) : Fn := fun ws m => match b (startE n ws) m.openS with
  | .go .nx _ m' => .ok (.d .none) (m'.closeS m.cells.length true)
  | .go (.rt w) _ m' => .ok w (m'.closeS m.cells.length (w.lt m.cells.length))
  | .exc x _ m' => .exc x (m'.closeS m.cells.length (Wd.ltAll m.cells.length (x.fs.map (·.2))))
  | _ => .stuck

section
variable {K : PySem.W.Frag} {W : L2.WX} {ι ι' : List Addr} {H H' : Hp} {env : Env} {σ : L2.St} {m : Mm}
theorem EnvOk.set {i : Nat} {w : Wd} {v : V} (h : EnvOk K ι H env σ) (r : RelW K ι H w v) : EnvOk K ι H (env.set i (some w)) (σ.set i (some v)) := by
  refine ⟨by simp [h.1], fun j u e => ?_⟩
  by_cases hj : j = i
  · subst hj
    have hl : j < env.length := by have := get_of e; rwa [List.length_set] at this
    rw [List.getElem?_set_self hl] at e
    cases e
    exact ⟨v, by rw [List.getElem?_set_self (by rw [← h.1]; exact hl)], r⟩
  · rw [List.getElem?_set_ne (Ne.symm hj)] at e
    obtain ⟨x, e1, r1⟩ := h.2 j u e
    exact ⟨x, by rw [List.getElem?_set_ne (Ne.symm hj)]; exact e1, r1⟩
theorem EnvOk.unset {i : Nat} (h : EnvOk K ι H env σ) : EnvOk K ι H (env.set i none) σ := by
  refine ⟨by simp [h.1], fun j u e => ?_⟩
  by_cases hj : j = i
  · subst hj
    have hl : j < env.length := by have := get_of e; rwa [List.length_set] at this
    rw [List.getElem?_set_self hl] at e
    cases e
  · rw [List.getElem?_set_ne (Ne.symm hj)] at e
    exact h.2 j u e
theorem EnvOk.forget (h : EnvOk K ι H env σ) : ∀ is : List Nat, EnvOk K ι H (forget is env) σ
  | [] => h
  | i :: r => (EnvOk.forget h r).unset
theorem EnvOk.take {b : Nat} : ∀ {env : Env} {σ : L2.St}, EnvOk K ι H env σ → envLt b env = true → EnvOk K (ι.take b) H env σ := by
  intro env σ h e
  refine ⟨h.1, fun i w q => ?_⟩
  obtain ⟨v, e1, r⟩ := h.2 i w q
  refine ⟨v, e1, r.take ?_⟩
  clear h e1 r
  induction env generalizing i with
  | nil => simp at q
  | cons o t ih =>
    cases i with
    | zero =>
      simp at q; subst q
      have e' : (w.lt b && envLt b t) = true := e
      exact (Bool.and_eq_true_iff.mp e').1
    | succ i =>
      refine ih ?_ i (by simpa using q)
      cases o with
      | none => exact e
      | some w' =>
        have e' : (w'.lt b && envLt b t) = true := e
        exact (Bool.and_eq_true_iff.mp e').2
/-- where less is known of the cells -/
theorem Stp.take {ι0 : List Addr} {H0 : Hp} {b : Nat} (st : Stp ι0 H0 ι H) (hb : ι0.length ≤ b) : Stp ι0 H0 (ι.take b) H where
  pre := by
    obtain ⟨t, e⟩ := st.pre
    refine ⟨t.take (b - ι0.length), ?_⟩
    rw [← e, List.take_append, List.take_of_length_le hb]
  new := fun a ha n => st.new a (List.mem_of_mem_take ha) n
  fix := st.fix
theorem pre_stp {ι0 ι2 : List Addr} {H0 : Hp} {b : Nat} (st : Stp ι0 H0 ι H) (hb : ι0.length ≤ b) (h : ι2 = ι ∨ (True ∧ ι2 = ι.take b)) : Stp ι0 H0 ι2 H := by
  rcases h with e | ⟨_, e⟩
  · rw [e]; exact st
  · rw [e]; exact st.take hb
/-! ### the rules -/
variable {X : Cx}
theorem ds_seq {st : Stmt} {rest : List Stmt} {f g : Sm} (h1 : PS X st (tS X.K W f)) (h2 : PSs X rest (tS X.K W g)) : PSs X (st :: rest) (tS X.K W (sSeq f g)) :=
  PSsimp (pss_cons h1 h2) fun D σ H ⟨ι, env, m, eo, mo, p⟩ => by
    refine ⟨ι, env, m, eo, mo, ?_⟩
    have p' : PostS X.K W D ι H ((f env m).seq g) := p
    cases q : f env m with
    | stuck => rw [q] at p'; exact p'
    | exc x e m1 => rw [q] at p'; exact p'
    | go fl e m1 =>
      rw [q] at p'
      cases fl with
      | nx => exact fun ι1 H1 σ1 st1 mo1 eo1 => ⟨ι1, e, m1, eo1, mo1, PostS.step st1 p'⟩
      | rt w => exact p'
      | bk => exact p'
      | ct => exact p'
theorem ds_nil : PSs X [] (tS X.K W sNop) := PSsimp pss_nil fun D σ H ⟨ι, env, m, eo, mo, p⟩ => p ι H σ .refl mo eo
theorem ds_one {st : Stmt} {f : Sm} (h : PS X st (tS X.K W f)) : PSs X [st] (tS X.K W f) := pss_one h
theorem ds_pass {pos : Pos} : PS X (.Pass pos) (tS X.K W sNop) := PSimp ps_pass fun D σ H ⟨ι, env, m, eo, mo, p⟩ => p ι H σ .refl mo eo
theorem ds_break {pos : Pos} : PS X (.Break pos) (tS X.K W sBk) := PSimp ps_break fun D σ H ⟨ι, env, m, eo, mo, p⟩ => p ι H σ .refl mo eo
theorem ds_continue {pos : Pos} : PS X (.Continue pos) (tS X.K W sCt) := PSimp ps_continue fun D σ H ⟨ι, env, m, eo, mo, p⟩ => p ι H σ .refl mo eo
theorem ds_expr {e : Expr} {pos : Pos} {f : Em Wd} (h : PE X e (tE X.K W f)) (hs : swapsWith e none pos.line X.env = pure false := by rfl) : PS X (.Expr e pos) (tS X.K W (sDrop f)) :=
  PSimp (ps_expr h hs) fun D σ H ⟨ι, env, m, eo, mo, p⟩ => PostS.bind eo mo p fun ι1 H1 a x m1 st1 mo1 eo1 ra p1 => p1 ι1 H1 σ .refl mo1 eo1
theorem ds_ret {e : Expr} {pos : Pos} {f : Em Wd} (h : PE X e (tE X.K W f)) : PS X (.Return (some e) pos) (tS X.K W (sRet f)) :=
  PSimp (ps_ret h) fun D σ H ⟨ι, env, m, eo, mo, p⟩ => PostS.bind eo mo p fun ι1 H1 a x m1 st1 mo1 eo1 ra p1 => p1 ι1 H1 x .refl mo1 ra
theorem ds_retN {pos : Pos} : PS X (.Return none pos) (tS X.K W sRetN) := PSimp ps_retN fun D σ H ⟨ι, env, m, eo, mo, p⟩ => p ι H .non .refl mo (.d .non)
theorem ds_if {c : Expr} {a b : List Stmt} {pos : Pos} {fc : Em Bool} {f g : Sm} (hc : PT X c (tT X.K W fc)) (ha : PSs X a (tS X.K W f)) (hb : PSs X b (tS X.K W g)) : PS X (.If c a b pos) (tS X.K W (sIf fc f g)) :=
  PSimp (ps_if hc ha hb) fun D σ H ⟨ι, env, m, eo, mo, p⟩ => PostS.bind eo mo p fun ι1 H1 a x m1 st1 mo1 eo1 ra p1 => by
    subst ra
    cases a with
    | true => exact ⟨ι1, env, m1, eo1, mo1, p1⟩
    | false => exact ⟨ι1, env, m1, eo1, mo1, p1⟩
theorem ds_set {i : Nat} {e : Expr} {x : Str} {pos pos' : Pos} {f : Em Wd} (h : PS X (.Assign [.Name x pos'] e pos) (tAsg (tE X.K W f) (gName i))) : PS X (.Assign [.Name x pos'] e pos) (tS X.K W (sSet i f)) :=
  PSimp h fun D σ H ⟨ι, env, m, eo, mo, p⟩ => PostS.bind eo mo p fun ι1 H1 a x m1 st1 mo1 eo1 ra p1 => p1 ι1 H1 _ .refl mo1 (eo1.set ra)
theorem ds_forget {st : Stmt} {f : Sm} (is : List Nat) (h : PS X st (tS X.K W f)) : PS X st (tS X.K W (sForget is f)) :=
  PSimp h fun D σ H ⟨ι, env, m, eo, mo, p⟩ => by
    refine ⟨ι, env, m, eo, mo, ?_⟩
    have p' : PostS X.K W D ι H ((f env m).seq fun env m => .go .nx (forget is env) m) := p
    cases q : f env m with
    | stuck => rw [q] at p'; exact p'
    | exc x e m1 => rw [q] at p'; exact p'
    | go fl e m1 =>
      rw [q] at p'
      cases fl with
      | nx => exact fun ι1 H1 σ1 st1 mo1 eo1 => p' ι1 H1 σ1 st1 mo1 (eo1.forget is)
      | rt w => exact p'
      | bk => exact p'
      | ct => exact p'
/-! ### targets -/
/-- what a target's store leaves: the slots that it names alone -/
structure Stored (K : PySem.W.Frag) (ι : List Addr) (H : Hp) (is : List Nat) (env' : Env) (σ σ' : L2.St) : Prop where
  len : σ'.length = σ.length
  out : ∀ i, i ∉ is → σ'[i]? = σ[i]?
  ok : EnvOk K ι H env' σ'
def GtOk (K : PySem.W.Frag) (t : Tg) (g : TG) : Prop := ∀ (ι : List Addr) (H : Hp) (m : Mm) (env env' : Env) (σ : L2.St) (w : Wd) (v : V) (Q : L2.St → Hp → Prop), MemOk K ι m H → EnvOk K ι H env σ → RelW K ι H w v → t.put w env = some env' →
  (∀ σ', Stored K ι H t.slots env' σ σ' → Q σ' H) → g v σ H Q
def GtsOk (K : PySem.W.Frag) (ts : List Tg) (g : TGs) : Prop := ∀ (ι : List Addr) (H : Hp) (m : Mm) (env env' : Env) (σ : L2.St) (ws : List Wd) (vs : List V) (Q : L2.St → Hp → Prop), MemOk K ι m H → EnvOk K ι H env σ → RelWs K ι H ws vs → Tg.putAll ts ws env = some env' →
  (∀ σ', Stored K ι H (Tg.slotsAll ts) env' σ σ' → Q σ' H) → g vs σ H Q
theorem gt_name {i : Nat} : GtOk K (.name i) (gName i) := by
  intro ι H m env env' σ w v Q mo eo r e h
  have e' : some (env.set i (some w)) = some env' := e
  cases e'
  exact h _ ⟨by simp, fun j hj => List.getElem?_set_ne (fun z => hj (by rw [← z]; exact List.mem_singleton.mpr rfl)), eo.set r⟩
theorem gts_nil : GtsOk K [] gNil := by
  intro ι H m env env' σ w v Q mo eo r e h
  cases r with
  | nil =>
    have e' : some env = some env' := e
    cases e'
    exact ⟨rfl, h _ ⟨rfl, fun _ _ => rfl, eo⟩⟩
  | cons _ _ => cases e
theorem gts_cons {t : Tg} {ts : List Tg} {g : TG} {gs : TGs} (h1 : GtOk K t g) (h2 : GtsOk K ts gs) : GtsOk K (t :: ts) (gCons g gs) := by
  intro ι H m env env' σ ws vs Q mo eo r e h
  cases r with
  | nil => cases e
  | cons ra rr =>
    rename_i w wr v vr
    have e' : ((t.put w env).bind fun env => Tg.putAll ts wr env) = some env' := e
    obtain ⟨e1, q1, q2⟩ := Option.bind_eq_some_iff.mp e'
    refine ⟨v, vr, rfl, h1 ι H m env e1 σ w v _ mo eo ra q1 fun σ1 s1 => ?_⟩
    refine h2 ι H m e1 env' σ1 wr vr Q mo s1.ok rr q2 fun σ2 s2 => h σ2 ⟨s2.len.trans s1.len, fun i hi => ?_, s2.ok⟩
    have hi' : i ∉ t.slots ++ Tg.slotsAll ts := hi
    rw [List.mem_append] at hi'
    rw [s2.out i fun z => hi' (.inr z), s1.out i fun z => hi' (.inl z)]
theorem putAll_length : ∀ {ts : List Tg} {ws : List Wd} {env env' : Env}, Tg.putAll ts ws env = some env' → ts.length = ws.length
  | [], [], _, _, _ => rfl
  | [], _ :: _, _, _, e => by cases e
  | _ :: _, [], _, _, e => by cases e
  | t :: ts, w :: ws, env, env', e => by
    have e' : ((t.put w env).bind fun env => Tg.putAll ts ws env) = some env' := e
    obtain ⟨e1, q1, q2⟩ := Option.bind_eq_some_iff.mp e'
    exact congrArg (· + 1) (putAll_length q2)
theorem gt_tup {ts : List Tg} {n : Nat} {gs : TGs} (h : GtsOk K ts gs) (hn : ts.length = n) : GtOk K (.tup ts) (gTup K n gs) := by
  intro ι H m env env' σ w v Q mo eo r e hq
  have e' : ((tupOf w).bind fun ws => Tg.putAll ts ws env) = some env' := e
  obtain ⟨ws, q1, q2⟩ := Option.bind_eq_some_iff.mp e'
  obtain ⟨a, vs, rfl, hs, rs⟩ := tupOf_ok q1 r
  refine ⟨a, vs, rfl, hs, ?_, h ι H m env env' σ ws vs Q mo eo rs q2 hq⟩
  rw [← rs.length, ← hn]
  exact (putAll_length q2).symm
theorem ds_asg {tg e : Expr} {pos : Pos} {t : Tg} {g : TG} {f : Em Wd} (h : PE X e (tE X.K W f)) (hg : PG X tg g) (hk : GtOk X.K t g) (hs : swapsWithSole [tg] e pos.line X.env = pure false := by rfl) (hw : swappedStores [tg] e X.env = pure none := by rfl)
    (h1 : (assignEach [tg] X.env).map (·.2) = [assign tg X.env] := by rfl) : PS X (.Assign [tg] e pos) (tS X.K W (sAsg t f)) :=
  PSimp (ps_asg h hg hs hw h1) fun D σ H ⟨ι, env, m, eo, mo, p⟩ => PostS.bind eo mo p fun ι1 H1 a x m1 st1 mo1 eo1 ra p1 => by
    cases q : t.put a env with
    | none => simp only [q] at p1; exact p1.elim
    | some e1 =>
      simp only [q] at p1
      exact hk ι1 H1 m1 env e1 σ a x _ mo1 eo1 ra q fun σ' s' => p1 ι1 H1 σ' .refl mo1 s'.ok
end
end DL
set_option Elab.async false
set_option linter.all false
set_option maxRecDepth 100000
set_option maxHeartbeats 2000000
namespace DL
open PySem PySem.Spec PyProof.Rows L2
open Classical in
/-- what must still stand while a thing is walked -/
noncomputable def gdOk (gd : List (Nat × Cell)) (m : Mm) : Bool := decide (∀ p ∈ gd, m.cells[p.1]? = some p.2)
abbrev Gd := List (Nat × Cell)
theorem gdOk_iff {gd : Gd} {m : Mm} : gdOk gd m = true ↔ ∀ p ∈ gd, m.cells[p.1]? = some p.2 := by
  unfold gdOk; simp
@[simp] theorem gdOk_nil {m : Mm} : gdOk [] m = true := gdOk_iff.mpr fun _ h => nomatch h
theorem gdOk_one {n : Nat} {c : Cell} {m : Mm} (h : m.cells[n]? = some c) : gdOk [(n, c)] m = true := gdOk_iff.mpr fun p hp => by rw [List.mem_singleton.mp hp]; exact h
/-! ### loops -/
def whN (c : Em Bool) (b : Sm) : Nat → Sm
  | 0 => fun _ _ => .stuck
  | n + 1 => fun env m => rs (c env m) env fun t m => if t = true then (match b env m with
    | .go .nx e m => whN c b n e m
    | .go .ct e m => whN c b n e m
    | .go .bk e m => .go .nx e m
    | r => r) else .go .nx env m
open Classical in
noncomputable def sWh (c : Em Bool) (b : Sm) : Sm := fun env m => if h : ∃ n, whN c b n env m ≠ .stuck then whN c b (Classical.choose h) env m else .stuck
theorem whN_mono {c : Em Bool} {b : Sm} : ∀ {n : Nat} {env : Env} {m : Mm}, whN c b n env m ≠ .stuck → whN c b (n + 1) env m = whN c b n env m
  | 0, env, m, h => absurd rfl h
  | n + 1, env, m, h => by
    have h' : (rs (c env m) env fun t m => if t = true then (match b env m with
      | .go .nx e m => whN c b n e m
      | .go .ct e m => whN c b n e m
      | .go .bk e m => .go .nx e m
      | r => r) else .go .nx env m) ≠ .stuck := h
    show (rs (c env m) env fun t m => if t = true then (match b env m with
      | .go .nx e m => whN c b (n + 1) e m
      | .go .ct e m => whN c b (n + 1) e m
      | .go .bk e m => .go .nx e m
      | r => r) else .go .nx env m) = (rs (c env m) env fun t m => if t = true then (match b env m with
      | .go .nx e m => whN c b n e m
      | .go .ct e m => whN c b n e m
      | .go .bk e m => .go .nx e m
      | r => r) else .go .nx env m)
    cases q : c env m with
    | stuck => rfl
    | exc x m1 => rfl
    | ok t m1 =>
      rw [q] at h'
      simp only [rs_ok] at h' ⊢
      cases t with
      | false => rfl
      | true =>
        simp only [if_true] at h' ⊢
        cases q2 : b env m1 with
        | stuck => rfl
        | exc x e m2 => rfl
        | go f e m2 =>
          rw [q2] at h'
          cases f with
          | nx => exact whN_mono h'
          | ct => exact whN_mono h'
          | bk => rfl
          | rt w => rfl
theorem whN_le {c : Em Bool} {b : Sm} {n k : Nat} {env : Env} {m : Mm} (h : whN c b n env m ≠ .stuck) : whN c b (n + k) env m = whN c b n env m := by
  induction k with
  | zero => rfl
  | succ k ih => rw [← Nat.add_assoc, whN_mono (by rw [ih]; exact h), ih]
theorem sWh_of {c : Em Bool} {b : Sm} {n : Nat} {env : Env} {m : Mm} {r : Sr} (h : whN c b n env m = r) (hr : r ≠ .stuck) : sWh c b env m = r := by
  have ex : ∃ n, whN c b n env m ≠ .stuck := ⟨n, by rw [h]; exact hr⟩
  unfold sWh
  rw [dif_pos ex]
  have h1 := Classical.choose_spec ex
  have e1 := whN_le (k := n) h1
  have e2 : whN c b (n + Classical.choose ex) env m = whN c b n env m := whN_le (by rw [h]; exact hr)
  rw [Nat.add_comm] at e2
  rw [← e1, e2, h]
/-- the while, one turn told -/
theorem sWh_unf {c : Em Bool} {b : Sm} {env : Env} {m : Mm} : sWh c b env m = rs (c env m) env fun t m => if t = true then (match b env m with
    | .go .nx e m => sWh c b e m
    | .go .ct e m => sWh c b e m
    | .go .bk e m => .go .nx e m
    | r => r) else .go .nx env m := by
  cases q : c env m with
  | stuck =>
    simp only [rs_stuck]
    unfold sWh
    rw [dif_neg]
    rintro ⟨n, hn⟩
    cases n with
    | zero => exact hn rfl
    | succ n => exact hn (by show rs (c env m) env _ = _; rw [q]; rfl)
  | exc x m1 => exact sWh_of (n := 1) (by show rs (c env m) env _ = _; rw [q]; rfl) (by simp)
  | ok t m1 =>
    simp only [rs_ok]
    cases t with
    | false => exact sWh_of (n := 1) (by show rs (c env m) env _ = _; rw [q]; rfl) (by simp)
    | true =>
      simp only [if_true]
      have step : ∀ n, whN c b (n + 1) env m = (match b env m1 with
        | .go .nx e m => whN c b n e m
        | .go .ct e m => whN c b n e m
        | .go .bk e m => .go .nx e m
        | r => r) := fun n => by
        show rs (c env m) env _ = _
        rw [q]; rfl
      have again : ∀ e m2, (∀ n, whN c b (n + 1) env m = whN c b n e m2) → sWh c b env m = sWh c b e m2 := fun e m2 h => by
        by_cases ex : ∃ n, whN c b n e m2 ≠ .stuck
        · obtain ⟨n, hn⟩ := ex
          rw [sWh_of (n := n + 1) (h n) hn, sWh_of (n := n) rfl hn]
        · have ex2 : ¬ ∃ n, whN c b n env m ≠ .stuck := by
            rintro ⟨n, hn⟩
            cases n with
            | zero => exact hn rfl
            | succ n => exact ex ⟨n, by rw [← h n]; exact hn⟩
          unfold sWh
          rw [dif_neg ex, dif_neg ex2]
      cases q2 : b env m1 with
      | stuck =>
        unfold sWh
        rw [dif_neg]
        rintro ⟨n, hn⟩
        cases n with
        | zero => exact hn rfl
        | succ n => exact hn (by rw [step n, q2])
      | exc x e m2 => exact sWh_of (n := 1) (by rw [step 0, q2]) (by simp)
      | go f e m2 =>
        cases f with
        | nx => exact again e m2 fun n => by rw [step n, q2]
        | ct => exact again e m2 fun n => by rw [step n, q2]
        | bk => exact sWh_of (n := 1) (by rw [step 0, q2]) (by simp)
        | rt w => exact sWh_of (n := 1) (by rw [step 0, q2]) (by simp)
/-- over the items of a list -/
noncomputable def forL (t : Tg) (b : Sm) (gd : Gd) : List Wd → Sm
  | [] => fun env m => if gdOk gd m = true then .go .nx env m else .stuck
  | w :: ws => fun env m => if gdOk gd m = true then (match t.put w env with
    | none => .stuck
    | some e => match b e m with
      | .go .nx e m => forL t b gd ws e m
      | .go .ct e m => forL t b gd ws e m
      | .go .bk e m => .go .nx e m
      | r => r) else .stuck
noncomputable def sFor (s : Em (List Wd × Gd)) (t : Tg) (b : Sm) : Sm := fun env m => rs (s env m) env fun p m => forL t b p.2 p.1 env m
/-- a comprehension's items -/
noncomputable def lcL (t : Tg) (c : Em Bool) (f : Em Wd) (gd : Gd) (env : Env) : List Wd → List Wd → Mm → Rs (List Wd)
  | [], acc, m => if gdOk gd m = true then .ok acc m else .stuck
  | w :: ws, acc, m => if gdOk gd m = true then (match t.put w env with
    | none => .stuck
    | some e => (c e m).bind fun b m => if b = true then (f e m).bind fun x m => (if acc.length < LIM then lcL t c f gd env ws (acc ++ [x]) m else .stuck) else lcL t c f gd env ws acc m) else .stuck
noncomputable def eLc (s : Em (List Wd × Gd)) (t : Tg) (c : Em Bool) (f : Em Wd) (own : List Nat) : Em Wd := fun env m => (s env m).bind fun p m => match lcL t c f p.2 (forget own env) p.1 [] m with
  | .ok xs m => .ok (.ref m.cells.length) (m.push (.lst xs))
  | _ => .stuck

section
variable {K : PySem.W.Frag} {W : L2.WX} {ι ι' ι0 : List Addr} {H H' H0 : Hp} {env : Env} {σ : L2.St} {m : Mm} {X : Cx}
theorem closeS_step {n0 : Nat} {held : Bool} (mo : MemOk K ι m H) (st : Stp ι0 H0 ι H) (hb : ι0.length ≤ n0) : ∃ ι2, Stp ι0 H0 ι2 H ∧ MemOk K ι2 (m.closeS n0 held) H ∧ (ι2 = ι ∨ (held = true ∧ ι2 = ι.take n0)) := by
  obtain ⟨ι2, _, h2, h3⟩ := mo.closeS (n0 := n0) (held := held)
  refine ⟨ι2, ?_, h2, h3⟩
  rcases h3 with e | ⟨_, e⟩
  · rw [e]; exact st
  · rw [e]; exact st.take hb
theorem ds_scope {b : List Stmt} {f : Sm} (h : PSs X b (tS X.K W f)) : PSs X b (tS X.K W (sScope f)) :=
  PSsimp h fun D σ H ⟨ι, env, m, eo, mo, p⟩ => by
    refine ⟨ι, env, m.openS, eo, mo.openS, ?_⟩
    have p' : PostS X.K W D ι H ((f env m.openS).close m.cells.length) := p
    have hb : ι.length ≤ m.cells.length := Nat.le_of_eq mo.len
    have go : ∀ {ι1 : List Addr} {H1 : Hp} {σ1 : L2.St} {e : Env} {m1 : Mm} {R : L2.St → Hp → Prop}, (∀ ι2 H2 σ2, Stp ι H ι2 H2 → MemOk X.K ι2 (m1.closeS m.cells.length (envLt m.cells.length e)) H2 → EnvOk X.K ι2 H2 e σ2 → R σ2 H2) → Stp ι H ι1 H1 → MemOk X.K ι1 m1 H1 → EnvOk X.K ι1 H1 e σ1 → R σ1 H1 := fun {ι1 H1 σ1 e m1 R} hR st mo1 eo1 => by
      obtain ⟨ι2, s2, m2, z⟩ := closeS_step (n0 := m.cells.length) (held := envLt m.cells.length e) mo1 st hb
      refine hR ι2 H1 σ1 s2 m2 ?_
      rcases z with z | ⟨z1, z2⟩
      · rw [z]; exact eo1
      · rw [z2]; exact eo1.take z1
    cases q : f env m.openS with
    | stuck => rw [q] at p'; exact p'
    | exc x e m1 =>
      rw [q] at p'
      intro ι1 H1 σ1 cls d st mo1 eo1 xo
      obtain ⟨ι2, s2, m2, z⟩ := closeS_step (n0 := m.cells.length) (held := false) mo1 st hb
      rcases z with z | ⟨z1, z2⟩
      · rw [z] at s2 m2; exact p' ι1 H1 σ1 cls d s2 m2 eo1 xo
      · cases z1
    | go fl e m1 =>
      rw [q] at p'
      cases fl with
      | nx => exact fun ι1 H1 σ1 st1 mo1 eo1 => go (R := D.nx) p' st1 mo1 eo1
      | bk => exact fun ι1 H1 σ1 st1 mo1 eo1 => go (R := D.bk) p' st1 mo1 eo1
      | ct => exact fun ι1 H1 σ1 st1 mo1 eo1 => go (R := D.ct) p' st1 mo1 eo1
      | rt w =>
        intro ι1 H1 v st1 mo1 r
        obtain ⟨ι2, s2, m2, z⟩ := closeS_step (n0 := m.cells.length) (held := w.lt m.cells.length) mo1 st1 hb
        refine p' ι2 H1 v s2 m2 ?_
        rcases z with z | ⟨z1, z2⟩
        · rw [z]; exact r
        · rw [z2]; exact r.take z1
theorem ds_while {c : Expr} {body : List Stmt} {pos : Pos} {fc : Em Bool} {b : Sm} (hp : PassesOwn (model X.prog X.w) X.A X.env X.xe) (hc : PT X c (tT X.K W fc)) (hb : PSs X body (tS X.K W b)) : PS X (.While c body [] pos) (tS X.K W (sWh fc b)) :=
  PSimp (ps_while hp hc hb) fun D σ H ⟨ι, env, m, eo, mo, p⟩ => by
    have ex : ∃ n, whN fc b n env m ≠ .stuck := by
      by_cases ex : ∃ n, whN fc b n env m ≠ .stuck
      · exact ex
      · have : sWh fc b env m = .stuck := by unfold sWh; rw [dif_neg ex]
        rw [this] at p; exact p.elim
    obtain ⟨n0, hn0⟩ := ex
    rw [sWh_of (n := n0) rfl hn0] at p
    refine ⟨fun n σ' H' => ∃ ι' env' m', Stp ι H ι' H' ∧ EnvOk X.K ι' H' env' σ' ∧ MemOk X.K ι' m' H' ∧ PostS X.K W D ι' H' (whN fc b n env' m'), ⟨n0, ι, env, m, .refl, eo, mo, p⟩, ?_⟩
    rintro n σ' H' ⟨ι', env', m', st, eo', mo', p'⟩
    cases n with
    | zero => exact p'.elim
    | succ n =>
      have p2 : PostS X.K W D ι' H' (rs (fc env' m') env' fun t m => if t = true then (match b env' m with
        | .go .nx e m => whN fc b n e m
        | .go .ct e m => whN fc b n e m
        | .go .bk e m => .go .nx e m
        | r => r) else .go .nx env' m) := p'
      refine PostS.bind eo' mo' p2 fun ι1 H1 t x m1 st1 mo1 eo1 ra p1 => ?_
      subst ra
      cases t with
      | false => exact p1 ι1 H1 σ' .refl mo1 eo1
      | true =>
        simp only [if_true] at p1 ⊢
        refine ⟨fun σ2 H2 => ∃ ι2 env2 m2, Stp ι1 H1 ι2 H2 ∧ EnvOk X.K ι2 H2 env2 σ2 ∧ MemOk X.K ι2 m2 H2 ∧ PostS X.K W D ι2 H2 (whN fc b n env2 m2), fun σ2 H2 ⟨ι2, env2, m2, s2, eo2, mo2, q2⟩ => ⟨n, Nat.lt_succ_self n, ι2, env2, m2, (st.trans st1).trans s2, eo2, mo2, q2⟩, ι1, env', m1, eo1, mo1, ?_⟩
        cases q : b env' m1 with
        | stuck => rw [q] at p1; exact p1
        | exc x e m2 => rw [q] at p1; exact p1
        | go f e m2 =>
          rw [q] at p1
          cases f with
          | nx => exact fun ι2 H2 σ2 s2 mo2 eo2 => ⟨ι2, e, m2, s2, eo2, mo2, PostS.step s2 p1⟩
          | ct => exact fun ι2 H2 σ2 s2 mo2 eo2 => ⟨ι2, e, m2, s2, eo2, mo2, PostS.step s2 p1⟩
          | bk => exact p1
          | rt w => exact p1
/-! ### what is walked -/
structure Src (K : PySem.W.Frag) (J : It) (xs : List Wd) (gd : Gd) (ι0 : List Addr) (H0 : Hp) : Prop where
  go : ∀ (i : Nat) ι m H, i < xs.length → Stp ι0 H0 ι H → MemOk K ι m H → gdOk gd m = true → J.go i H
  yld : ∀ (i : Nat) ι m H x H' w, Stp ι0 H0 ι H → MemOk K ι m H → gdOk gd m = true → J.yld i H x H' → xs[i]? = some w → Stp ι H ι H' ∧ MemOk K ι m H' ∧ RelW K ι H' w x
  stop : ∀ (i : Nat) ι m H, xs.length ≤ i → Stp ι0 H0 ι H → MemOk K ι m H → gdOk gd m = true → J.stop i H
def tI (K : PySem.W.Frag) (W : L2.WX) (s : Em (List Wd × Gd)) : TI := fun σ H R => ∃ ι env m, EnvOk K ι H env σ ∧ MemOk K ι m H ∧ match s env m with
  | .ok (xs, gd) m1 => ∀ ι1 H1 J, Stp ι H ι1 H1 → MemOk K ι1 m1 H1 → Src K J xs gd ι1 H1 → R J H1
  | .exc x m1 => ∀ ι1 H1 cls d, Stp ι H ι1 H1 → MemOk K ι1 m1 H1 → ExOk K ι1 H1 x cls d → W cls d σ H1
  | .stuck => False
theorem PIimp {tg e : Expr} {w w' : TI} (h : PI X tg e w) (i : ∀ σ H R, w' σ H R → w σ H R) : PI X tg e w' := ⟨fun pins s σ H R I hw => h.run pins s σ H R I (i σ H R hw)⟩
theorem PIor {tg e : Expr} {w w' : TI} (h : PI X tg e w) (h' : PI X tg e w') : PI X tg e (fun σ H R => w σ H R ∨ w' σ H R) := ⟨fun pins s σ H R I hw => hw.elim (h.run pins s σ H R I) (h'.run pins s σ H R I)⟩
theorem ds_for {tg iter : Expr} {body : List Stmt} {pos : Pos} {s : Em (List Wd × Gd)} {t : Tg} {g : TG} {b : Sm} (hp : PassesOwn (model X.prog X.w) X.A X.env X.xe) (hc : X.calm = true) (hi : PI X tg iter (tI X.K W s)) (hg : PG X tg g) (hk : GtOk X.K t g) (hb : PSs X body (tS X.K W b))
    (hs : ∀ x, foldedSetIterable iter X.env x = pure x := by intro _; rfl) : PS X (.For tg iter body [] pos) (tS X.K W (sFor s t b)) :=
  PSimp (ps_for hp hc hi hg hb hs) fun D σ H ⟨ι, env, m, eo, mo, p⟩ => by
    refine ⟨ι, env, m, eo, mo, ?_⟩
    have p' : PostS X.K W D ι H (rs (s env m) env fun p m => forL t b p.2 p.1 env m) := p
    cases q : s env m with
    | stuck => rw [q] at p'; exact p'.elim
    | exc x m1 => rw [q] at p'; exact fun ι1 H1 cls d st mo1 xo => p' ι1 H1 σ cls d st mo1 (eo.step mo.apart st) xo
    | ok pr m1 =>
      obtain ⟨xs, gd⟩ := pr
      rw [q] at p'
      intro ι1 H1 J st1 mo1 sr
      have p1 : PostS X.K W D ι1 H1 (forL t b gd xs env m1) := PostS.step st1 p'
      refine ⟨fun i n σ' H' => n = xs.length - i ∧ i ≤ xs.length ∧ ∃ ι' env' m', Stp ι1 H1 ι' H' ∧ EnvOk X.K ι' H' env' σ' ∧ MemOk X.K ι' m' H' ∧ PostS X.K W D ι' H' (forL t b gd (xs.drop i) env' m'), ⟨xs.length, by simp, Nat.zero_le _, ι1, env, m1, .refl, eo.step mo.apart st1, mo1, p1⟩, ?_⟩
      rintro i n σ' H' ⟨hn, hi', ι', env', m', st', eo', mo', pp⟩
      by_cases hlt : i < xs.length
      · rw [List.drop_eq_getElem_cons hlt] at pp
        have pp' : PostS X.K W D ι' H' (if gdOk gd m' = true then (match t.put xs[i] env' with
          | none => .stuck
          | some e => match b e m' with
            | .go .nx e m => forL t b gd (xs.drop (i + 1)) e m
            | .go .ct e m => forL t b gd (xs.drop (i + 1)) e m
            | .go .bk e m => .go .nx e m
            | r => r) else .stuck) := pp
        by_cases hgd : gdOk gd m' = true
        · rw [if_pos hgd] at pp'
          refine .inr ⟨sr.go i ι' m' H' hlt st' mo' hgd, fun σ2 H2 => ∃ ι2 env2 m2, Stp ι1 H1 ι2 H2 ∧ EnvOk X.K ι2 H2 env2 σ2 ∧ MemOk X.K ι2 m2 H2 ∧ PostS X.K W D ι2 H2 (forL t b gd (xs.drop (i + 1)) env2 m2), fun σ2 H2 h2 => ⟨xs.length - (i + 1), by omega, rfl, hlt, h2⟩, fun x H2 hy => ?_⟩
          obtain ⟨s2, mo2, r2⟩ := sr.yld i ι' m' H' x H2 xs[i] st' mo' hgd hy (List.getElem?_eq_getElem hlt)
          cases qp : t.put xs[i] env' with
          | none => rw [qp] at pp'; exact pp'.elim
          | some e =>
            rw [qp] at pp'
            refine hk ι' H2 m' env' e σ' xs[i] x _ mo2 (eo'.step mo'.apart s2) r2 qp fun σ3 s3 => ⟨ι', e, m', s3.ok, mo2, ?_⟩
            simp only [] at pp'
            cases qb : b e m' with
            | stuck => rw [qb] at pp'; exact pp'
            | exc x e1 m2 => rw [qb] at pp'; exact PostS.step s2 pp'
            | go f e1 m2 =>
              rw [qb] at pp'
              cases f with
              | nx => exact fun ι4 H4 σ4 s4 mo4 eo4 => ⟨ι4, e1, m2, (st'.trans s2).trans s4, eo4, mo4, PostS.step (s2.trans s4) pp'⟩
              | ct => exact fun ι4 H4 σ4 s4 mo4 eo4 => ⟨ι4, e1, m2, (st'.trans s2).trans s4, eo4, mo4, PostS.step (s2.trans s4) pp'⟩
              | bk => exact fun ι4 H4 σ4 s4 mo4 eo4 => pp' ι4 H4 σ4 (s2.trans s4) mo4 eo4
              | rt w => exact fun ι4 H4 σ4 s4 mo4 eo4 => pp' ι4 H4 σ4 (s2.trans s4) mo4 eo4
        · rw [if_neg hgd] at pp'; exact pp'.elim
      · have e : i = xs.length := by omega
        subst e
        rw [List.drop_length] at pp
        have pp' : PostS X.K W D ι' H' (if gdOk gd m' = true then .go .nx env' m' else .stuck) := pp
        by_cases hgd : gdOk gd m' = true
        · rw [if_pos hgd] at pp'
          exact .inl ⟨sr.stop _ ι' m' H' (Nat.le_refl _) st' mo' hgd, pp' ι' H' σ' .refl mo' eo'⟩
        · rw [if_neg hgd] at pp'; exact pp'.elim
end
end DL
set_option Elab.async false
set_option linter.all false
set_option maxRecDepth 100000
set_option maxHeartbeats 2000000
namespace DL
open PySem PySem.Spec PyProof.Rows L2
section
variable {K : PySem.W.Frag} {W : L2.WX} {ι ι' ι0 : List Addr} {H H' H0 : Hp} {env : Env} {σ : L2.St} {m : Mm} {X : Cx}
/-! ### a list that is tracked beside the cells -/
structure Kept (K : PySem.W.Frag) (ι : List Addr) (H : Hp) (ι' : List Addr) (H' : Hp) : Prop where
  pre : ι <+: ι'
  tup : ∀ a xs, SqT K H a xs → SqT K H' a xs
  rol : ∀ a xs, Rol K H a xs → Rol K H' a xs
  ext : ∀ a p, H a = some (.ext p) → H' a = some (.ext p)
mutual
theorem RelD.keep (k : Kept K ι H ι' H') : ∀ {d : PyData} {v : V}, RelD K H d v → RelD K H' d v
  | _, _, .non => .non
  | _, _, .bl b => .bl b
  | _, _, .int i => .int i
  | _, _, .str x => .str x
  | _, _, .tup h hs => .tup (k.tup _ _ h) (RelDs.keep k hs)
theorem RelDs.keep (k : Kept K ι H ι' H') : ∀ {d : List PyData} {v : List V}, RelDs K H d v → RelDs K H' d v
  | _, _, .nil => .nil
  | _, _, .cons h hs => .cons (RelD.keep k h) (RelDs.keep k hs)
end
mutual
theorem RelW.keep (k : Kept K ι H ι' H') : ∀ {d : Wd} {v : V}, RelW K ι H d v → RelW K ι' H' d v
  | _, _, .d h => .d (h.keep k)
  | _, _, .ref h => .ref (pre_get k.pre h)
  | _, _, .tup h hs => .tup (k.tup _ _ h) (RelWs.keep k hs)
  | _, _, .rol h hs => .rol (k.rol _ _ h) (RelWs.keep k hs)
  | _, _, .v x => .v x
theorem RelWs.keep (k : Kept K ι H ι' H') : ∀ {d : List Wd} {v : List V}, RelWs K ι H d v → RelWs K ι' H' d v
  | _, _, .nil => .nil
  | _, _, .cons h hs => .cons (RelW.keep k h) (RelWs.keep k hs)
end
theorem KvOk.keep (k : Kept K ι H ι' H') : ∀ {d : List (PyData × Wd)} {v : List (Key × V)}, KvOk K ι H d v → KvOk K ι' H' d v
  | [], [], _ => True.intro
  | (_, _) :: _, (_, _) :: _, ⟨h1, h2, h3⟩ => ⟨h1, h2.keep k, KvOk.keep k h3⟩
  | [], _ :: _, h => h.elim
  | _ :: _, [], h => h.elim
theorem FsOk.keep (k : Kept K ι H ι' H') : ∀ {d : List (Str × Wd)} {v : List (Str × V)}, FsOk K ι H d v → FsOk K ι' H' d v
  | [], [], _ => True.intro
  | (_, _) :: _, (_, _) :: _, ⟨h1, h2, h3⟩ => ⟨h1, h2.keep k, FsOk.keep k h3⟩
  | [], _ :: _, h => h.elim
  | _ :: _, [], h => h.elim
theorem CellOk.keep {a : Addr} {c : Cell} (k : Kept K ι H ι' H') (ha : H' a = H a) (h : CellOk K ι H a c) : CellOk K ι' H' a c := by
  cases c with
  | lst xs => obtain ⟨vs, e, r⟩ := h; exact ⟨vs, ha.trans e, r.keep k⟩
  | dct kvs => obtain ⟨ks, e, r⟩ := h; exact ⟨ks, ha.trans e, r.keep k⟩
  | ins c fs => obtain ⟨C, dx, gs, e0, e, r⟩ := h; exact ⟨C, dx, gs, e0, ha.trans e, r.keep k⟩
  | tab x q =>
    obtain ⟨h0, ps, e, h2, h3⟩ := h
    refine ⟨h0, ps, ha.trans e, h2, fun pos cv hc => ?_⟩
    obtain ⟨b, e1, e2⟩ := h3 pos cv hc
    exact ⟨b, e1, k.ext _ _ e2⟩
/-- a tracked list at D, no cell, is changed -/
theorem kept_upd {D : Addr} {xs ys : List V} (hD : H D = some (.lst xs)) : Kept K ι H ι (upd H D (.lst ys)) where
  pre := List.prefix_refl _
  tup := fun a zs h => by
    rcases h with h | h
    · have n : a ≠ D := fun e => by
        subst e
        rcases h with h | ⟨o, h⟩
        · rw [hD] at h; cases h
        · rw [hD] at h; cases h
      rcases h with h | ⟨o, h⟩
      · exact .inl (.inl (by rw [upd_ne n]; exact h))
      · exact .inl (.inr ⟨o, by rw [upd_ne n]; exact h⟩)
    · exact .inr h
  ext := fun a p h => by rw [upd_ne (fun e => by rw [e, hD] at h; cases h)]; exact h
  rol := fun a zs h => by
    rcases h with ⟨o, h⟩ | h
    · have n : a ≠ D := fun e => by rw [e, hD] at h; cases h
      exact .inl ⟨o, by rw [upd_ne n]; exact h⟩
    · exact .inr h
theorem kept_more {D : Addr} : Kept K ι H (ι ++ [D]) H := ⟨List.prefix_append _ _, fun _ _ h => h, fun _ _ h => h, fun _ _ h => h⟩
theorem MemOk.upd {D : Addr} {xs ys : List V} (mo : MemOk K ι m H) (hD : H D = some (.lst xs)) (hn : D ∉ ι) : MemOk K ι m (upd H D (.lst ys)) :=
  ⟨mo.len, mo.nd, fun n a c h1 h2 => (mo.cell n a c h1 h2).keep (kept_upd hD) (upd_ne fun e => hn (by rw [← e]; exact List.mem_of_getElem? h1)), mo.top, mo.ord, mo.clean⟩
/-- it becomes a cell -/
theorem MemOk.adopt {D : Addr} {ws : List Wd} {xs : List V} (mo : MemOk K ι m H) (hD : H D = some (.lst xs)) (hn : D ∉ ι) (r : RelWs K ι H ws xs) : MemOk K (ι ++ [D]) (m.push (.lst ws)) H := by
  refine ⟨by simp [Mm.push, mo.len], ?_, fun n a c' h1 h2 => ?_, fun q hq => ?_, mo.ord, fun q hq n c' hlt hd hc => ?_⟩
  · rw [List.nodup_append]
    exact ⟨mo.nd, by simp, fun a ha b hb e => hn (by rw [List.mem_singleton.mp hb] at e; rw [← e]; exact ha)⟩
  · by_cases hlt : n < ι.length
    · rw [List.getElem?_append_left hlt] at h1
      have h2' : m.cells[n]? = some c' := by
        have : (m.cells ++ [Cell.lst ws])[n]? = some c' := h2
        rwa [List.getElem?_append_left (by rw [← mo.len]; exact hlt)] at this
      exact (mo.cell n a c' h1 h2').keep kept_more rfl
    · have hl := get_of h1
      rw [List.length_append, List.length_singleton] at hl
      have e : n = ι.length := by omega
      subst e
      have e1 : a = D := by simpa using h1.symm
      have e2 : c' = Cell.lst ws := by
        have : (m.cells ++ [Cell.lst ws])[ι.length]? = some c' := h2
        rw [mo.len] at this
        simpa using this.symm
      subst e1; subst e2
      exact ⟨xs, hD, r.keep kept_more⟩
  · have := mo.top q hq
    show q.1 ≤ (m.cells ++ [Cell.lst ws]).length
    rw [List.length_append]; omega
  · have ht := mo.top q hq
    have hc' : (m.cells ++ [Cell.lst ws])[n]? = some c' := hc
    rw [List.getElem?_append_left (by omega)] at hc'
    exact mo.clean q hq n c' hlt hd hc'
theorem wipe_env : ∀ {vs : List Nat} {env : Env} {σ : L2.St}, EnvOk K ι H env σ → EnvOk K ι H (forget vs env) (wipe σ vs)
  | [], _, _, h => h
  | v :: vs, env, σ, h => by
    have ih := wipe_env (vs := vs) h
    refine ⟨by simp [forget, wipe, ih.1], fun j u e => ?_⟩
    have e' : ((forget vs env).set v none)[j]? = some (some u) := e
    by_cases hj : j = v
    · subst hj
      have hl := get_of e'
      rw [List.length_set] at hl
      rw [List.getElem?_set_self hl] at e'
      cases e'
    · rw [List.getElem?_set_ne (Ne.symm hj)] at e'
      obtain ⟨x, e1, r⟩ := ih.2 j u e'
      exact ⟨x, by show ((wipe σ vs).set v none)[j]? = _; rw [List.getElem?_set_ne (Ne.symm hj)]; exact e1, r⟩
theorem wipe_same : ∀ {vs : List Nat} {σ σ' : L2.St}, σ'.length = σ.length → (∀ i, i ∉ vs → σ'[i]? = σ[i]?) → wipe σ' vs = wipe σ vs := by
  intro vs σ σ' hl h
  have get : ∀ (vs : List Nat) (σ : L2.St) (i : Nat), (wipe σ vs)[i]? = if i ∈ vs then (if i < σ.length then some none else none) else σ[i]? := by
    intro vs
    induction vs with
    | nil => intro σ i; simp [wipe]
    | cons v vs ih =>
      intro σ i
      show ((wipe σ vs).set v none)[i]? = _
      by_cases e : i = v
      · subst e
        rw [if_pos List.mem_cons_self]
        by_cases hi : i < σ.length
        · rw [if_pos hi, List.getElem?_set_self (by rw [wipe_length]; exact hi)]
        · rw [if_neg hi, List.getElem?_eq_none (by rw [List.length_set, wipe_length]; omega)]
      · rw [List.getElem?_set_ne (Ne.symm e), ih]
        by_cases hm : i ∈ vs
        · rw [if_pos hm, if_pos (List.mem_cons_of_mem _ hm)]
        · rw [if_neg hm, if_neg (fun z => (List.mem_cons.mp z).elim e hm)]
  apply List.ext_getElem?
  intro i
  rw [get, get, hl]
  split
  · rfl
  · exact h i (by assumption)
/-- the comprehension's reading -/
theorem post_lc {s : Em (List Wd × Gd)} {t : Tg} {g : TG} {c : Em Bool} {f : Em Wd} {own : List Nat} {Q : VK} (hk : GtOk K t g) (hsub : ∀ i ∈ t.slots, i ∈ own) (h : tE K W (eLc s t c f own) σ H Q) : tLc (tI K W s) g (tT K W0 c) (tE K W0 f) own σ H Q := by
  obtain ⟨ι, env, m, eo, mo, p⟩ := h
  refine ⟨ι, env, m, eo, mo, ?_⟩
  have p' : Post K W (RelW K) ι H σ Q ((s env m).bind fun p m => match lcL t c f p.2 (forget own env) p.1 [] m with
    | .ok xs m => .ok (.ref m.cells.length) (m.push (.lst xs))
    | _ => .stuck) := p
  cases q : s env m with
  | stuck => rw [q] at p'; exact p'.elim
  | exc x m1 => rw [q] at p'; exact p'
  | ok pr m1 =>
    obtain ⟨xs, gd⟩ := pr
    rw [q] at p'
    simp only [Rs.bind_ok] at p'
    intro ι1 H1 J st1 mo1 sr D hD
    have nD1 : D ∉ ι1 := mo1.new hD
    have eo1 : EnvOk K ι1 H1 (forget own env) (wipe σ own) := wipe_env (eo.step mo.apart st1)
    -- the end, once the items are known
    let R : Rs (List Wd) → Prop := fun r => match r with
      | .ok ys m2 => ∀ ι2 H2 vs, Stp ι1 H1 ι2 H2 → MemOk K ι2 m2 H2 → D ∉ ι2 → H2 D = some (.lst vs) → RelWs K ι2 H2 ys vs → Q (.ref D) H2
      | _ => False
    have hR : R (lcL t c f gd (forget own env) xs [] m1) := by
      cases q2 : lcL t c f gd (forget own env) xs [] m1 with
      | ok ys m2 =>
        rw [q2] at p'
        intro ι2 H2 vs s2 mo2 nD e2 r2
        have hs : Stp ι H (ι2 ++ [D]) H2 := by
          have hst := st1.trans s2
          refine ⟨hst.pre.trans (List.prefix_append _ _), fun a ha n => ?_, hst.fix⟩
          rcases List.mem_append.mp ha with z | z
          · exact hst.new a z n
          · rw [List.mem_singleton.mp z] at n ⊢
            cases e : H D with
            | none => rfl
            | some o => rw [st1.fix D o e n] at hD; cases hD
        exact p' (ι2 ++ [D]) H2 (.ref D) hs (mo2.adopt e2 nD r2) (.ref (by rw [← mo2.len]; simp))
      | exc x m2 => rw [q2] at p'; exact p'.elim
      | stuck => rw [q2] at p'; exact p'.elim
    refine ⟨fun i n H' => n = xs.length - i ∧ i ≤ xs.length ∧ ∃ ι' m' acc vacc, Stp ι1 H1 ι' H' ∧ MemOk K ι' m' H' ∧ EnvOk K ι' H' (forget own env) (wipe σ own) ∧ D ∉ ι' ∧ H' D = some (.lst vacc) ∧ RelWs K ι' H' acc vacc ∧ R (lcL t c f gd (forget own env) (xs.drop i) acc m'), ⟨xs.length, by simp, Nat.zero_le _, ι1, m1, [], [], ?_, ?_, ?_, nD1, upd_same, .nil, hR⟩, ?_⟩
    · exact stp_tup hD
    · exact mo1.stay (ι' := ι1) (stp_tup hD) fun a ha => upd_ne fun e => nD1 (by rw [← e]; exact ha)
    · exact eo1.step mo1.apart (stp_tup hD)
    rintro i n H' ⟨hn, hi', ι', m', acc, vacc, st', mo', eo', nD, eD, ra, hr⟩
    by_cases hlt : i < xs.length
    · rw [List.drop_eq_getElem_cons hlt] at hr
      have hr' : R (if gdOk gd m' = true then (match t.put xs[i] (forget own env) with
        | none => .stuck
        | some e => (c e m').bind fun b m => if b = true then (f e m).bind fun x m => (if acc.length < LIM then lcL t c f gd (forget own env) (xs.drop (i + 1)) (acc ++ [x]) m else .stuck) else lcL t c f gd (forget own env) (xs.drop (i + 1)) acc m) else .stuck) := hr
      by_cases hgd : gdOk gd m' = true
      · rw [if_pos hgd] at hr'
        refine .inr ⟨sr.go i ι' m' H' hlt st' mo' hgd, fun H2 => ∃ ι2 m2 acc vacc, Stp ι1 H1 ι2 H2 ∧ MemOk K ι2 m2 H2 ∧ EnvOk K ι2 H2 (forget own env) (wipe σ own) ∧ D ∉ ι2 ∧ H2 D = some (.lst vacc) ∧ RelWs K ι2 H2 acc vacc ∧ R (lcL t c f gd (forget own env) (xs.drop (i + 1)) acc m2), fun H2 h2 => ⟨xs.length - (i + 1), by omega, rfl, hlt, h2⟩, fun x H2 hy => ?_⟩
        obtain ⟨s2, mo2, r2⟩ := sr.yld i ι' m' H' x H2 xs[i] st' mo' hgd hy (List.getElem?_eq_getElem hlt)
        cases qp : t.put xs[i] (forget own env) with
        | none => rw [qp] at hr'; exact hr'.elim
        | some e =>
          rw [qp] at hr'
          refine hk ι' H2 m' (forget own env) e (wipe σ own) xs[i] x _ mo2 (eo'.step mo'.apart s2) r2 qp fun σ3 s3 => ⟨?_, ?_⟩
          · refine (wipe_same s3.len fun i hi => s3.out i fun z => hi (hsub i z)).trans ?_
            exact wipe_same (by rw [wipe_length]) fun i hi => by rw [wipe_out hi]
          · simp only [] at hr'
            have eD2 : H2 D = some (.lst vacc) := s2.fix D _ eD nD
            -- the test
            refine ⟨ι', e, m', s3.ok, mo2, ?_⟩
            cases qc : c e m' with
            | stuck => rw [qc] at hr'; exact hr'.elim
            | exc x m2 => rw [qc] at hr'; exact hr'.elim
            | ok b m2 =>
              rw [qc] at hr'
              simp only [Rs.bind_ok] at hr'
              intro ι3 H3 b' s4 mo4 eb
              subst eb
              have nD3 : D ∉ ι3 := fun z => by have := s4.new D z nD; rw [eD2] at this; cases this
              have eD3 : H3 D = some (.lst vacc) := s4.fix D _ eD2 nD
              cases b with
              | false =>
                rw [if_neg (by decide)] at hr' ⊢
                exact ⟨ι3, m2, acc, vacc, (st'.trans s2).trans s4, mo4, (eo'.step mo'.apart s2).step mo2.apart s4, nD3, eD3, (ra.step mo'.apart s2).step mo2.apart s4, hr'⟩
              | true =>
                rw [if_pos rfl] at hr' ⊢
                refine ⟨ι3, e, m2, s3.ok.step mo2.apart s4, mo4, ?_⟩
                cases qf : f e m2 with
                | stuck => rw [qf] at hr'; exact hr'.elim
                | exc x m3 => rw [qf] at hr'; exact hr'.elim
                | ok y m3 =>
                  rw [qf] at hr'
                  simp only [Rs.bind_ok] at hr'
                  intro ι4 H4 v s5 mo5 ry
                  have nD4 : D ∉ ι4 := fun z => by have := s5.new D z nD3; rw [eD3] at this; cases this
                  have eD4 : H4 D = some (.lst vacc) := s5.fix D _ eD3 nD3
                  have ra4 := ((ra.step mo'.apart s2).step mo2.apart s4).step mo4.apart s5
                  by_cases hl : acc.length < LIM
                  · rw [if_pos hl] at hr'
                    have hl2 : vacc.length < sizeLine := by rw [← ra4.length, ← LIM_eq]; exact hl
                    have k := kept_upd (K := K) (ι := ι4) (ys := vacc ++ [v]) eD4
                    refine ⟨vacc, eD4, hl2, ι4, m3, acc ++ [y], vacc ++ [v], ?_, mo5.upd eD4 nD4, ?_, nD4, upd_same, (ra4.keep k).append (.cons (ry.keep k) .nil), hr'⟩
                    · have s6 := ((st'.trans s2).trans s4).trans s5
                      exact ⟨s6.pre, s6.new, fun a o h n => by rw [upd_ne (ne_of_none h hD)]; exact s6.fix a o h n⟩
                    · have e5 := ((eo'.step mo'.apart s2).step mo2.apart s4).step mo4.apart s5
                      exact ⟨e5.1, fun j w q => let ⟨v, q1, r⟩ := e5.2 j w q; ⟨v, q1, r.keep k⟩⟩
                  · rw [if_neg hl] at hr'; exact hr'.elim
      · rw [if_neg hgd] at hr'; exact hr'.elim
    · have e : i = xs.length := by omega
      subst e
      rw [List.drop_length] at hr
      have hr' : R (if gdOk gd m' = true then .ok acc m' else .stuck) := hr
      by_cases hgd : gdOk gd m' = true
      · rw [if_pos hgd] at hr'
        exact .inl ⟨sr.stop _ ι' m' H' (Nat.le_refl _) st' mo' hgd, hr' ι' H' vacc st' mo' nD eD ra⟩
      · rw [if_neg hgd] at hr'; exact hr'.elim
theorem de_lc {elt tg iter : Expr} {ifs : List Expr} {scope : Scope} {own : List (Str × Nat)} {pos : Pos} {s : Em (List Wd × Gd)} {t : Tg} {g : TG} {c : Em Bool} {f : Em Wd} (hc : X.calm = true) (hN : X.N.Nodup) (hi : PI X tg iter (tI X.K W s)) (ok : BlkOk X.N X.env.scope scope own)
    (hg : ∀ (s : Shared) (H : Hp) (C : Addr) (cl : List (Str × Addr)) (fp : List Addr), PG (X.blk s H scope (compEnvC scope cl C X.env) fp) tg g) (hk : GtOk X.K t g) (hsub : (t.slots.all fun i => (own.map (·.2)).contains i) = true) (ht : ∀ (s : Shared) (H : Hp) (C : Addr) (cl : List (Str × Addr)) (fp : List Addr), PTs (X.blk s H scope (compEnvC scope cl C X.env) fp) ifs (tT X.K W0 c))
    (he : ∀ (s : Shared) (H : Hp) (C : Addr) (cl : List (Str × Addr)) (fp : List Addr), PE (X.blk s H scope (compEnvC scope cl C X.env) fp) elt (tE X.K W0 f)) (hs : ∀ x, foldedSetIterable iter X.env x = pure x := by intro _; rfl) :
    PE X (.ListComp elt [⟨tg, iter, ifs, 0⟩] scope pos) (tE X.K W (eLc s t c f (own.map (·.2)))) :=
  PEimp (pe_lc hc hN hi ok hg ht he hs) fun σ H Q h => post_lc hk (fun i hi => by simpa using List.all_eq_true.mp hsub i hi) h
theorem ds_setLc {i : Nat} {y : Str} {py : Pos} {elt tg iter : Expr} {ifs : List Expr} {scope : Scope} {own : List (Str × Nat)} {pos spos : Pos} {s : Em (List Wd × Gd)} {t : Tg} {g : TG} {c : Em Bool} {f : Em Wd} (hc : X.calm = true) (hN : X.N.Nodup) (hy : X.N[i]? = some y) (hyl : X.env.scope.names.lookup y = some .local)
    (hsw : swapsWith (.ListComp elt [⟨tg, iter, ifs, 0⟩] scope pos) (some (.Name y py)) spos.line X.env = pure true) (hi : PI X tg iter (tI X.K W s)) (ok : BlkOk X.N X.env.scope scope own)
    (hg : ∀ (s : Shared) (H : Hp) (C : Addr) (cl : List (Str × Addr)) (fp : List Addr), PG (X.blk s H scope (compEnvC scope cl C X.env) fp) tg g) (hk : GtOk X.K t g) (hsub : (t.slots.all fun i => (own.map (·.2)).contains i) = true) (ht : ∀ (s : Shared) (H : Hp) (C : Addr) (cl : List (Str × Addr)) (fp : List Addr), PTs (X.blk s H scope (compEnvC scope cl C X.env) fp) ifs (tT X.K W0 c))
    (he : ∀ (s : Shared) (H : Hp) (C : Addr) (cl : List (Str × Addr)) (fp : List Addr), PE (X.blk s H scope (compEnvC scope cl C X.env) fp) elt (tE X.K W0 f)) (hs : ∀ x, foldedSetIterable iter X.env x = pure x := by intro _; rfl) :
    PS X (.Assign [.Name y py] (.ListComp elt [⟨tg, iter, ifs, 0⟩] scope pos) spos) (tS X.K W (sSet i (eLc s t c f (own.map (·.2))))) :=
  PSimp (ps_setLc hc hN hy hyl hsw hi ok hg ht he hs) fun D σ H ⟨ι, env, m, eo, mo, p⟩ =>
    post_lc (Q := fun x H1 => gName i x σ H1 D.nx) hk (fun i hi => by simpa using List.all_eq_true.mp hsub i hi) (PostS.bind eo mo p fun ι1 H1 a x m1 st1 mo1 eo1 ra p1 => p1 ι1 H1 _ .refl mo1 (eo1.set ra))
theorem dts_nil {X : Cx} : PTs X [] (tT X.K W (fun _ m => .ok true m)) := ⟨fun pins s σ H Q I h => pts_nil.run pins s σ H Q I (let ⟨ι, env, m, eo, mo, p⟩ := h; post_ok p mo rfl)⟩
theorem dts_one {X : Cx} {c : Expr} {f : Em Bool} (h : PT X c (tT X.K W f)) : PTs X [c] (tT X.K W f) := pts_one h
/-! ### a def -/
theorem exOk_take {b : Nat} {x : Ex} {cls : Value} {d : Option Addr} (h : ExOk K ι H x cls d) (e : Wd.ltAll b (x.fs.map (·.2)) = true) : ExOk K (ι.take b) H x cls d := by
  obtain ⟨C, h1, h2, h3⟩ := h
  refine ⟨C, h1, h2, ?_⟩
  rcases h3 with h3 | ⟨dd, gs, q1, q2, q3⟩
  · exact .inl h3
  · exact .inr ⟨dd, gs, q1, q2, q3.takeI e⟩
theorem start_ok {n : Nat} {ws : List Wd} {N : List Str} {vs : List V} (r : RelWs K ι H ws vs) (hn : N.length = n) : EnvOk K ι H (startE n ws) (L2.start N vs) := by
  refine ⟨by simp [startE, L2.start, r.length, hn], fun i w e => ?_⟩
  have e' : (ws.map some ++ List.replicate (n - ws.length) none)[i]? = some (some w) := e
  by_cases hi : i < ws.length
  · rw [List.getElem?_append_left (by rw [List.length_map]; exact hi), List.getElem?_map] at e'
    cases q : ws[i]? with
    | none => rw [q] at e'; cases e'
    | some w' =>
      rw [q] at e'
      have : w' = w := by simpa using e'
      subst this
      obtain ⟨v, q1, q2⟩ := r.get q
      refine ⟨v, ?_, q2⟩
      show (vs.map some ++ List.replicate (N.length - vs.length) none)[i]? = _
      rw [List.getElem?_append_left (by rw [List.length_map]; exact get_of q1), List.getElem?_map, q1]
      rfl
  · rw [List.getElem?_append_right (by rw [List.length_map]; omega)] at e'
    rw [List.getElem?_replicate] at e'
    split at e' <;> cases e'
theorem fn_start {n k : Nat} {b : Sm} {N : List Str} {vs : List V} {H : Hp} {Q : VK} {E : XK} (hn : N.length = n) (h : spD K k (runF n b) vs H Q E) : tS K (fun cls d _ H => E cls d H) b { nx := fun _ H' => Q .non H', rt := Q } (L2.start N vs) H := by
  obtain ⟨ι, m, ws, hl, mo, r, p⟩ := h
  refine ⟨ι, startE n ws, m.openS, start_ok r hn, mo.openS, ?_⟩
  unfold runF at p
  have hb : ι.length ≤ m.cells.length := Nat.le_of_eq mo.len
  cases q : b (startE n ws) m.openS with
  | stuck => rw [q] at p; exact p
  | exc x e m1 =>
    rw [q] at p
    intro ι1 H1 σ1 cls d st mo1 eo1 xo
    obtain ⟨ι2, s2, m2, z⟩ := closeS_step (n0 := m.cells.length) (held := Wd.ltAll m.cells.length (x.fs.map (·.2))) mo1 st hb
    refine p ι2 H1 cls d s2 m2 ?_
    rcases z with z | ⟨z1, z2⟩
    · rw [z]; exact xo
    · rw [z2]; exact exOk_take xo z1
  | go fl e m1 =>
    rw [q] at p
    cases fl with
    | nx =>
      intro ι1 H1 σ1 st mo1 eo1
      obtain ⟨ι2, s2, m2, z⟩ := closeS_step (n0 := m.cells.length) (held := true) mo1 st hb
      exact p ι2 H1 .non s2 m2 (.d .non)
    | rt w =>
      intro ι1 H1 v st mo1 rw'
      obtain ⟨ι2, s2, m2, z⟩ := closeS_step (n0 := m.cells.length) (held := w.lt m.cells.length) mo1 st hb
      refine p ι2 H1 v s2 m2 ?_
      rcases z with z | ⟨z1, z2⟩
      · rw [z]; exact rw'
      · rw [z2]; exact rw'.take z1
    | bk => exact p.elim
    | ct => exact p.elim
/-- less is promised -/
theorem spD_imp {n : Nat} {F G : Fn} (h : ∀ ws m, ws.length = n → G ws m = .stuck ∨ F ws m = G ws m) {vs : List V} {H : Hp} {Q : VK} {E : XK} (p : spD K n G vs H Q E) : spD K n F vs H Q E := by
  obtain ⟨ι, m, ws, hl, mo, r, p⟩ := p
  refine ⟨ι, m, ws, hl, mo, r, ?_⟩
  rcases h ws m (r.length.trans hl) with z | z
  · rw [z] at p; exact p.elim
  · rw [z]; exact p
end
end DL
set_option Elab.async false
set_option linter.all false
set_option maxRecDepth 100000
set_option maxHeartbeats 2000000
namespace DL
open PySem PySem.Spec PyProof.Rows L2

/-! ### operators -/
def intO (C : Int → Int → Bool) (g : Int → Int → PyData) : Op2 := fun a b m => match a, b with
  | .d (.int i), .d (.int j) => if C i j = true then some (.d (g i j), m) else none
  | _, _ => none
def small64 (i : Int) : Bool := decide (-(2 ^ 64) < i ∧ i < 2 ^ 64)
/-- the pair of two that are lists in cells -/
def twoL (a b : Wd) (m : Mm) : Option (List Wd × List Wd) := match a, b with
  | .ref n, .ref k => match m.cells[n]?, m.cells[k]? with
    | some (.lst xs), some (.lst ys) => some (xs, ys)
    | _, _ => none
  | _, _ => none
def addO : Op2 := fun a b m => match a, b with
  | .d (.int i), .d (.int j) => some (.d (.int (i + j)), m)
  | .d (.str x), .d (.str y) => if x.length + y.length ≤ LIM then some (.d (.str (x ++ y)), m) else none
  | .ref n, .ref k => match m.cells[n]?, m.cells[k]? with
    | some (.lst xs), some (.lst ys) => if xs.length + ys.length ≤ LIM then some (.ref m.cells.length, m.push (.lst (xs ++ ys))) else none
    | _, _ => none
  | a, b => match tupOf a, tupOf b with
    | some xs, some ys => if xs.length + ys.length ≤ LIM then some (mkTup (xs ++ ys), m) else none
    | _, _ => none
def mulO : Op2 := fun a b m => match a, b with
  | .d (.int i), .d (.int j) => if (small64 i || small64 j) = true then some (.d (.int (i * j)), m) else none
  | .ref n, .d (.int k) => match m.cells[n]? with
    | some (.lst xs) => if (-(2 ^ 63) ≤ k ∧ k < 2 ^ 63) ∧ xs.length * k.toNat ≤ LIM then some (.ref m.cells.length, m.push (.lst (List.replicate k.toNat xs).flatten)) else none
    | _ => none
  | _, _ => none
def subO : Op2 := intO (fun _ _ => true) fun i j => .int (i - j)
def fdivO : Op2 := intO (fun _ j => decide (0 < j ∧ j < 1073741824)) fun i j => .int (i / j)
def modO : Op2 := intO (fun _ j => decide (0 < j)) fun i j => .int (i % j)
def powO : Op2 := intO (fun i j => decide (0 ≤ j ∧ j ≤ 1000000 ∧ i.natAbs < 2 ^ 64)) fun i j => .int (i ^ j.toNat)
def andO : Op2 := intO (fun _ _ => true) fun i j => .int (Builtin.bitAnd i j)
def shrO : Op2 := intO (fun _ j => decide (0 ≤ j)) fun i j => .int (i / 2 ^ j.toNat)
def ltO : Op2 := intO (fun _ _ => true) fun i j => .bool (decide (i < j))
def leO : Op2 := intO (fun _ _ => true) fun i j => .bool (decide (i ≤ j))
def gtO : Op2 := intO (fun _ _ => true) fun i j => .bool (decide (j < i))
def geO : Op2 := intO (fun _ _ => true) fun i j => .bool (decide (j ≤ i))
def negO : Op1 := fun a m => match a with
  | .d (.int i) => some (.d (.int (-i)), m)
  | _ => none

section
variable {K : PySem.W.Frag} {W : L2.WX} {ι : List Addr} {H : Hp} {σ : L2.St} {m : Mm} {X : Cx}
theorem stp_list {q : Addr} {o : HO} (hq : H q = none) : Stp ι H (ι ++ [q]) (upd H q o) := stp_new hq
theorem intO_ok {f : Value → Value → Sem Value} {C' : Int → Int → Prop} {C : Int → Int → Bool} {g : Int → Int → PyData} {g' : Int → Int → V} (h : OpR X f (rI C' g')) (hC : ∀ i j, C i j = true → C' i j) (hg : ∀ i j H, RelD X.K H (g i j) (g' i j)) : OpR X f (rO X.K (intO C g)) :=
  OpRimp h fun x y H Q ⟨ι, m, a, b, mo, ra, rb, p⟩ => by
    unfold intO at p
    split at p
    · rename_i i j
      by_cases hc : C i j = true
      · rw [if_pos hc] at p
        exact ⟨i, j, relW_int ra, relW_int rb, hC i j hc, post_ok p mo (.d (hg i j H))⟩
      · rw [if_neg hc] at p; exact p.elim
    · exact p.elim
theorem intO_ok0 {f : Value → Value → Sem Value} {g : Int → Int → PyData} {g' : Int → Int → V} (h : OpR X f (rI0 g')) (hg : ∀ i j H, RelD X.K H (g i j) (g' i j)) : OpR X f (rO X.K (intO (fun _ _ => true) g)) :=
  OpRimp h fun x y H Q ⟨ι, m, a, b, mo, ra, rb, p⟩ => by
    unfold intO at p
    split at p
    · rename_i i j
      rw [if_pos rfl] at p
      exact ⟨i, j, relW_int ra, relW_int rb, post_ok p mo (.d (hg i j H))⟩
    · exact p.elim
theorem o_sub : OpR X (binaryOp .Sub) (rO X.K subO) := intO_ok0 op_sub fun _ _ _ => .int _
theorem o_fdiv : OpR X (binaryOp .FloorDiv) (rO X.K fdivO) := intO_ok op_fdiv (fun _ j h => show 0 < j ∧ j < 1073741824 from of_decide_eq_true h) fun _ _ _ => .int _
theorem o_mod : OpR X (binaryOp .Mod) (rO X.K modO) := intO_ok op_mod (fun _ _ h => of_decide_eq_true h) fun _ _ _ => .int _
theorem o_pow : OpR X (binaryOp .Pow) (rO X.K powO) := intO_ok op_pow (fun i j h => show 0 ≤ j ∧ j ≤ 1000000 ∧ i.natAbs < 2 ^ 64 from of_decide_eq_true h) fun _ _ _ => .int _
theorem o_and : OpR X (binaryOp .BitAnd) (rO X.K andO) := intO_ok0 op_and fun _ _ _ => .int _
theorem o_shr : OpR X (binaryOp .RShift) (rO X.K shrO) := intO_ok op_shr (fun _ _ h => of_decide_eq_true h) fun _ _ _ => .int _
theorem o_lt : OpR X (compareOp .Lt) (rO X.K ltO) := intO_ok0 op_lt fun _ _ _ => .bl _
theorem o_le : OpR X (compareOp .LtE) (rO X.K leO) := intO_ok0 op_le fun _ _ _ => .bl _
theorem o_gt : OpR X (compareOp .Gt) (rO X.K gtO) := intO_ok0 op_gt fun _ _ _ => .bl _
theorem o_ge : OpR X (compareOp .GtE) (rO X.K geO) := intO_ok0 op_ge fun _ _ _ => .bl _
theorem o_neg : UnR X (unaryOp .USub) (rO1 X.K negO) := fun pins s σ H x v Q I rx h => by
  obtain ⟨ι, m, a, mo, ra, p⟩ := h
  unfold negO at p
  split at p
  · rename_i i
    exact un_neg pins s σ H x v Q I rx ⟨i, relW_int ra, post_ok p mo (.d (.int _))⟩
  · exact p.elim
/-- () + t is t -/
theorem op_catT0 : OpR X (binaryOp .Add) (fun x y H Q => ∃ a b ys, x = .ref a ∧ y = .ref b ∧ SqT X.K H a [] ∧ SqT X.K H b ys ∧ Q (.ref b) H) := by
  intro pins s σ H x y v u Q I rx ry h
  obtain ⟨a, b, ys, rfl, rfl, ha, hb, q⟩ := h
  cases rx
  cases ry
  obtain ⟨its, r1, p1, _⟩ := I.tuple ha
  obtain ⟨its2, r2, p2, _⟩ := I.tuple hb
  cases r1
  obtain ⟨⟨cls, dd, data, sl⟩, ho, hc, n, hd⟩ := id p1
  obtain ⟨⟨cls2, dd2, data2, sl2⟩, ho2, hc2, n2, hd2⟩ := id p2
  simp only at hc hd hc2 hd2
  subst hc hd hc2 hd2
  exact concat_meets ⟨_, ho, rfl⟩ ⟨_, ho2, rfl⟩ noFill_tuple_add seq_tuple_add PySem.F.slot_tuple_add PySem.F.entry_tuple_add (PySem.F.args_tuple_add_2 _ _)
    (tuple_addW0 a b ([] : List Value).toArray its2.toArray n n2 dd dd2 sl sl2 (by simp)) ⟨ho, ho2, ⟨.ref b, H, I, rfl, q⟩⟩
theorem o_add : OpR X (binaryOp .Add) (rO X.K addO) := by
  refine OpRimp (OpR.or op_add (OpR.or op_add_str (OpR.or op_cat (OpR.or op_catT op_catT0)))) fun x y H Q ⟨ι, m, a, b, mo, ra, rb, p⟩ => ?_
  unfold addO at p
  split at p
  · rename_i i j
    exact .inl ⟨i, j, relW_int ra, relW_int rb, post_ok p mo (.d (.int _))⟩
  · rename_i x' y'
    split at p
    · exact .inr (.inl ⟨x', y', relW_str ra, relW_str rb, by rw [← LIM_eq]; assumption, post_ok p mo (.d (.str _))⟩)
    · exact p.elim
  · rename_i n k
    split at p
    · rename_i xs ys h1 h2
      split at p
      · rename_i hl
        obtain ⟨a1, rfl, e1⟩ := relW_ref ra
        obtain ⟨b1, rfl, e2⟩ := relW_ref rb
        obtain ⟨vs, q1, r1⟩ := mo.cell _ _ _ e1 h1
        obtain ⟨us, q2, r2⟩ := mo.cell _ _ _ e2 h2
        refine .inr (.inr (.inl ⟨a1, b1, vs, us, rfl, rfl, q1, q2, by rw [← r1.length, ← r2.length, ← LIM_eq]; exact hl, fun q hq => ?_⟩))
        obtain ⟨c1, c2⟩ := cell_new mo hq (r1.append r2)
        exact p _ _ _ (stp_new hq) c1 c2
      · exact p.elim
    · exact p.elim
  · split at p
    · rename_i xs ys h1 h2
      split at p
      · rename_i hl
        obtain ⟨a1, vs, rfl, q1, r1⟩ := tupOf_ok h1 ra
        obtain ⟨b1, us, rfl, q2, r2⟩ := tupOf_ok h2 rb
        by_cases hv : vs = []
        · subst hv
          cases r1
          refine .inr (.inr (.inr (.inr ⟨a1, b1, us, rfl, rfl, q1, q2, post_ok p mo (mkTup_ok q2 r2)⟩)))
        · refine .inr (.inr (.inr (.inl ⟨a1, b1, vs, us, rfl, rfl, q1, q2, hv, by rw [← r1.length, ← r2.length, ← LIM_eq]; exact hl, fun e => ?_, fun e q hq => ?_⟩)))
          · subst e
            cases r2
            rw [List.append_nil] at p
            exact post_ok p mo (mkTup_ok q1 r1)
          · exact p ι _ _ (stp_tup hq) (mo.tup hq) (mkTup_ok (SqT.of upd_same) ((r1.append r2).step mo.apart (stp_tup hq)))
      · exact p.elim
    · exact p.elim
theorem o_mul : OpR X (binaryOp .Mult) (rO X.K mulO) := by
  refine OpRimp (OpR.or op_mul op_rep) fun x y H Q ⟨ι, m, a, b, mo, ra, rb, p⟩ => ?_
  unfold mulO at p
  split at p
  · rename_i i j
    split at p
    · rename_i hc
      refine .inl ⟨i, j, relW_int ra, relW_int rb, ?_, post_ok p mo (.d (.int _))⟩
      rw [Bool.or_eq_true] at hc
      exact hc.elim (fun h => .inl (of_decide_eq_true h)) (fun h => .inr (of_decide_eq_true h))
    · exact p.elim
  · rename_i n k
    split at p
    · rename_i xs h1
      split at p
      · rename_i hl
        obtain ⟨a1, rfl, e1⟩ := relW_ref ra
        obtain ⟨vs, q1, r1⟩ := mo.cell _ _ _ e1 h1
        refine .inr ⟨a1, k, vs, rfl, relW_int rb, q1, hl.1.1, hl.1.2, by rw [← r1.length, ← LIM_eq]; exact hl.2, fun q hq => ?_⟩
        have rr : ∀ j : Nat, RelWs X.K ι H (List.replicate j xs).flatten (List.replicate j vs).flatten := by
          intro j
          induction j with
          | zero => exact .nil
          | succ j ih => simp only [List.replicate_succ, List.flatten_cons]; exact r1.append ih
        obtain ⟨c1, c2⟩ := cell_new mo hq (rr k.toNat)
        exact p _ _ _ (stp_new hq) c1 c2
      · exact p.elim
    · exact p.elim
  · exact p.elim

/-! ### == -/
def seqO {α : Type} : List (Option α) → Option (List α)
  | [] => some []
  | some x :: r => (seqO r).map (x :: ·)
  | none :: _ => none
def toP (m : Mm) : Nat → Wd → Option PyData
  | _, .d x => some x
  | k + 1, .ref n => match m.cells[n]? with
    | some (.lst xs) => (seqO (xs.map (toP m k))).map .list
    | _ => none
  | k + 1, .tup xs => (seqO (xs.map (toP m k))).map .tuple
  | k + 1, .rol xs => (seqO (xs.map (toP m k))).map .list
  | _, _ => none
theorem dp_of : ∀ {d : PyData} {v : V}, RelD K H d v → Dp K H v d := by
  intro d v h
  exact RelD.rec (motive_1 := fun d v _ => Dp K H v d) (motive_2 := fun ds vs _ => DpAll K H vs ds) .non (fun b => .bl b) (fun i => .int i) (fun x => .str x) (fun h _ ih => .tup h ih) .nil (fun _ _ h1 h2 => .cons h1 h2) h
theorem toP_ok (mo : MemOk K ι m H) : ∀ (k : Nat) {w : Wd} {v : V} {d : PyData}, RelW K ι H w v → toP m k w = some d → Dp K H v d := by
  intro k
  induction k with
  | zero =>
    intro w v d r e
    cases r with
    | d r => cases e; exact dp_of r
    | _ => cases e
  | succ k ih =>
    have all : ∀ {ws : List Wd} {vs : List V} {ds : List PyData}, RelWs K ι H ws vs → seqO (ws.map (toP m k)) = some ds → DpAll K H vs ds := by
      intro ws
      induction ws with
      | nil => intro vs ds r e; cases r; cases e; exact .nil
      | cons w ws ihw =>
        intro vs ds r e
        cases r with
        | cons ra rr =>
          rw [List.map_cons] at e
          cases q : toP m k w with
          | none => rw [q] at e; cases e
          | some d =>
            rw [q] at e
            have e' : (seqO (ws.map (toP m k))).map (d :: ·) = some ds := e
            obtain ⟨es, q1, q2⟩ := Option.map_eq_some_iff.mp e'
            subst q2
            exact .cons (ih ra q) (ihw rr q1)
    intro w v d r e
    cases r with
    | d r => cases e; exact dp_of r
    | ref h =>
      rename_i n a
      have e' : (match m.cells[n]? with
        | some (.lst xs) => (seqO (xs.map (toP m k))).map .list
        | _ => none) = some d := e
      split at e'
      · rename_i xs hc
        obtain ⟨es, q1, q2⟩ := Option.map_eq_some_iff.mp e'
        subst q2
        obtain ⟨vs, q3, r3⟩ := mo.cell _ _ _ h hc
        exact .lst (SqL.of q3) (all r3 q1)
      · cases e'
    | tup h hs =>
      obtain ⟨es, q1, q2⟩ := Option.map_eq_some_iff.mp (show (seqO (_)).map PyData.tuple = some d from e)
      subst q2
      exact .tup h (all hs q1)
    | rol h hs =>
      obtain ⟨es, q1, q2⟩ := Option.map_eq_some_iff.mp (show (seqO (_)).map PyData.list = some d from e)
      subst q2
      exact .lst h.sqL (all hs q1)
    | v x => cases e
/-- values without depth, whose texts need no look -/
def scalD : PyData → PyData → Bool
  | .none, .none => true | .none, .int _ => true | .int _, .none => true | .none, .bool _ => true | .bool _, .none => true | .none, .str _ => true | .str _, .none => true
  | .int _, .int _ => true | .bool _, .bool _ => true | .str _, .str _ => true
  | .int _, .str _ => true | .str _, .int _ => true | .bool _, .str _ => true | .str _, .bool _ => true
  | _, _ => false
def eqB (a b : Wd) (m : Mm) : Option Bool := match toP m 64 a, toP m 64 b with
  | some x, some y => if (scalD x y || (SeqAt.shaped x && SeqAt.shaped y)) = true then some (PyData.eqv x y) else none
  | _, _ => none
def eqO : Op2 := fun a b m => match eqB a b m with
  | some k => some (.d (.bool k), m)
  | none => none
def neO : Op2 := fun a b m => match eqB a b m with
  | some k => some (.d (.bool (!k)), m)
  | none => none
theorem scal_of {x y : PyData} {v u : V} (h : scalD x y = true) (r1 : RelD K H x v) (r2 : RelD K H y u) : scal v u = true ∧ decide (v = u) = PyData.eqv x y := by
  cases r1 <;> cases r2 <;> first | (cases h; done) | (refine ⟨rfl, ?_⟩; simp [PyData.eqv]; done) | (refine ⟨rfl, ?_⟩; simp [PyData.eqv]; rw [Bool.eq_iff_iff]; simp)
theorem toP_scal {x y : PyData} {w : Wd} {k : Nat} (h : scalD x y = true ∨ scalD y x = true) (e : toP m k w = some x) : w = .d x := by
  cases w with
  | d z => cases k <;> (cases e; rfl)
  | ref n =>
    exfalso
    cases k with
    | zero => cases e
    | succ k =>
      have e' : (match m.cells[n]? with
        | some (.lst xs) => (seqO (xs.map (toP m k))).map .list
        | _ => none) = some x := e
      split at e'
      · obtain ⟨es, q1, q2⟩ := Option.map_eq_some_iff.mp e'
        subst q2
        rcases h with h | h <;> cases y <;> cases h
      · cases e'
  | tup xs =>
    exfalso
    cases k with
    | zero => cases e
    | succ k =>
      obtain ⟨es, q1, q2⟩ := Option.map_eq_some_iff.mp (show (seqO (_)).map PyData.tuple = some x from e)
      subst q2
      rcases h with h | h <;> cases y <;> cases h
  | rol xs =>
    exfalso
    cases k with
    | zero => cases e
    | succ k =>
      obtain ⟨es, q1, q2⟩ := Option.map_eq_some_iff.mp (show (seqO (_)).map PyData.list = some x from e)
      subst q2
      rcases h with h | h <;> cases y <;> cases h
  | v z => exfalso; cases k <;> cases e
theorem o_eq (hu : X.A.units + 64 < cLine) : OpR X (compareOp .Eq) (rO X.K eqO) := by
  refine OpRimp (OpR.or op_eq (op_eqD hu)) fun x y H Q ⟨ι, m, a, b, mo, ra, rb, p⟩ => ?_
  unfold eqO eqB at p
  cases q1 : toP m 64 a with
  | none => rw [q1] at p; exact p.elim
  | some d =>
    cases q2 : toP m 64 b with
    | none => rw [q1, q2] at p; exact p.elim
    | some e =>
      rw [q1, q2] at p
      simp only [] at p
      by_cases hs : scalD d e = true
      · rw [if_pos (by rw [hs]; rfl)] at p
        have ea := toP_scal (.inl hs) q1
        have eb := toP_scal (.inr hs) q2
        subst ea; subst eb
        obtain ⟨h1, h2⟩ := scal_of hs ra.d' rb.d'
        exact .inl ⟨h1, by rw [h2]; exact post_ok p mo (.d (.bl _))⟩
      · by_cases h : (scalD d e || (SeqAt.shaped d && SeqAt.shaped e)) = true
        · rw [if_pos h] at p
          rw [Bool.or_eq_true, Bool.and_eq_true] at h
          rcases h with h | ⟨h1, h2⟩
          · exact absurd h hs
          · exact .inr ⟨d, e, toP_ok mo 64 ra q1, toP_ok mo 64 rb q2, h1, h2, post_ok p mo (.d (.bl _))⟩
        · rw [if_neg h] at p; exact p.elim
theorem o_ne (hu : X.A.units + 64 < cLine) : OpR X (compareOp .NotEq) (rO X.K neO) := by
  refine OpRimp (OpR.or op_ne (op_neD hu)) fun x y H Q ⟨ι, m, a, b, mo, ra, rb, p⟩ => ?_
  unfold neO eqB at p
  cases q1 : toP m 64 a with
  | none => rw [q1] at p; exact p.elim
  | some d =>
    cases q2 : toP m 64 b with
    | none => rw [q1, q2] at p; exact p.elim
    | some e =>
      rw [q1, q2] at p
      simp only [] at p
      by_cases hs : scalD d e = true
      · rw [if_pos (by rw [hs]; rfl)] at p
        have ea := toP_scal (.inl hs) q1
        have eb := toP_scal (.inr hs) q2
        subst ea; subst eb
        obtain ⟨h1, h2⟩ := scal_of hs ra.d' rb.d'
        exact .inl ⟨h1, by rw [h2]; exact post_ok p mo (.d (.bl _))⟩
      · by_cases h : (scalD d e || (SeqAt.shaped d && SeqAt.shaped e)) = true
        · rw [if_pos h] at p
          rw [Bool.or_eq_true, Bool.and_eq_true] at h
          rcases h with h | ⟨h1, h2⟩
          · exact absurd h hs
          · exact .inr ⟨d, e, toP_ok mo 64 ra q1, toP_ok mo 64 rb q2, h1, h2, post_ok p mo (.d (.bl _))⟩
        · rw [if_neg h] at p; exact p.elim
end
end DL
set_option Elab.async false
set_option linter.all false
set_option maxRecDepth 100000
set_option maxHeartbeats 2000000
namespace DL
open PySem PySem.Spec PyProof.Rows L2

/-! ### sequences -/
/-- the items of a list or tuple -/
def seqOf (m : Mm) : Wd → Option (List Wd)
  | .d (.tuple ds) => some (ds.map .d)
  | .tup ws => some ws
  | .rol ws => some ws
  | .ref n => match m.cells[n]? with
    | some (.lst xs) => some xs
    | _ => none
  | _ => none
def lenO : OpN := fun ws m => match ws with
  | [.d (.str x)] => if x.length ≤ LIM then some (.d (.int x.length), m) else none
  | [.ref n] => match m.cells[n]? with
    | some (.lst xs) => some (.d (.int xs.length), m)
    | some (.dct kvs) => some (.d (.int kvs.length), m)
    | _ => none
  | [w] => match seqOf m w with
    | some xs => some (.d (.int xs.length), m)
    | none => none
  | _ => none
def flatD : PyData → Bool
  | .none => true | .bool _ => true | .int _ => true | .str _ => true
  | _ => false
def flatW : Wd → Bool
  | .d x => flatD x
  | _ => false
def eqvW : Wd → Wd → Bool
  | .d x, .d y => PyData.eqv x y
  | _, _ => false
/-- x in y -/
def inB (x y : Wd) (m : Mm) : Option Bool := match x, y with
  | .d (.str a), .d (.str z) => match a.cps.toList with
    | [c] => some (decide (c ∈ z.cps.toList))
    | _ => none
  | _, _ => match seqOf m y with
    | some ys => if (flatW x && ys.all flatW) = true then some (ys.any fun z => eqvW z x) else none
    | none => none
def inO : Op2 := fun x y m => match inB x y m with
  | some b => some (.d (.bool b), m)
  | none => none
def niO : Op2 := fun x y m => match inB x y m with
  | some b => some (.d (.bool (!b)), m)
  | none => none
def isNoneW : Wd → Option Bool
  | .d .none => some true
  | .d _ => some false
  | .ref _ => some false
  | .tup _ => some false
  | .rol _ => some false
  | .v _ => none
def isNO : Op2 := fun x y m => match y with
  | .d .none => match isNoneW x with
    | some b => some (.d (.bool b), m)
    | none => none
  | _ => none
def nnO : Op2 := fun x y m => match y with
  | .d .none => match isNoneW x with
    | some b => some (.d (.bool (!b)), m)
    | none => none
  | _ => none
/-- an item -/
def ixO : Op2 := fun x y m => match x, y with
  | .d (.str z), .d (.int i) => if z.length ≤ LIM then (match atI z.cps.toList i with
    | some c => some (.d (.str ⟨#[c]⟩), m)
    | none => none) else none
  | x, .d (.int i) => match seqOf m x with
    | some xs => match atI xs i with
      | some w => some (w, m)
      | none => none
    | none => none
  | _, _ => none
/-- a part -/
def cutW (xs : List Wd) (lo hi : Option Int) : List Wd := (xs.drop (HT.sIx xs.length 0 lo)).take (HT.sIx xs.length xs.length hi - HT.sIx xs.length 0 lo)
def slO (x : Wd) (lo hi : Option Int) (m : Mm) : Option (Wd × Mm) := match x with
  | .d (.str z) => if z.length ≤ LIM then some (.d (.str (cutS z lo hi)), m) else none
  | .ref n => match m.cells[n]? with
    | some (.lst xs) => some (.ref m.cells.length, m.push (.lst (cutW xs lo hi)))
    | _ => none
  | .rol xs => some (.ref m.cells.length, m.push (.lst (cutW xs lo hi)))
  | x => match tupOf x with
    | some xs => some (mkTup (cutW xs lo hi), m)
    | none => none
/-- a slice's bound -/
abbrev Eo := Em (Option Int)
def oNone : Eo := fun _ m => .ok none m
def oSome (f : Em Wd) : Eo := fun env m => (f env m).bind fun w m => match w with
  | .d (.int i) => .ok (some i) m
  | _ => .stuck
def eSl (f : Em Wd) (lo hi : Eo) : Em Wd := fun env m => (f env m).bind fun w m => (lo env m).bind fun l m => (hi env m).bind fun h m => Rs.of (slO w l h m)
/-- calls -/
def absO : OpN := fun ws m => match ws with
  | [.d (.int i)] => some (.d (.int (if i < 0 then -i else i)), m)
  | _ => none
def intO1 : OpN := fun ws m => match ws with
  | [.d (.int i)] => some (.d (.int i), m)
  | [.d (.bool b)] => some (.d (.int (if b then 1 else 0)), m)
  | _ => none
def listO : OpN := fun ws m => match ws with
  | [w] => match seqOf m w with
    | some xs => some (.ref m.cells.length, m.push (.lst xs))
    | none => none
  | _ => none
def tupleO : OpN := fun ws m => match ws with
  | [w] => match seqOf m w with
    | some xs => some (mkTup xs, m)
    | none => none
  | _ => none
def boolsW : List Wd → Option (List Bool)
  | [] => some []
  | .d (.bool b) :: r => (boolsW r).map (b :: ·)
  | _ :: _ => none
def allO : OpN := fun ws m => match ws with
  | [.ref n] => match m.cells[n]? with
    | some (.lst xs) => match boolsW xs with
      | some bs => some (.d (.bool (bs.all id)), m)
      | none => none
    | _ => none
  | _ => none
def anyO : OpN := fun ws m => match ws with
  | [.ref n] => match m.cells[n]? with
    | some (.lst xs) => match boolsW xs with
      | some bs => some (.d (.bool (bs.any id)), m)
      | none => none
    | _ => none
  | _ => none
/-- isinstance of built-in types -/
def tyName (m : Mm) : Wd → Option String
  | .d .none => some "NoneType" | .d (.bool _) => some "bool" | .d (.int _) => some "int" | .d (.str _) => some "str" | .d (.tuple _) => some "tuple"
  | .tup _ => some "tuple" | .rol _ => some "list"
  | .ref n => match m.cells[n]? with
    | some (.lst _) => some "list"
    | some (.dct _) => some "dict"
    | _ => none
  | _ => none
def isT (a T : String) : Bool := decide (a = T) || (decide (a = "bool") && decide (T = "int"))
def isiO (Ts : List String) (w : Wd) (m : Mm) : Option (Wd × Mm) := match tyName m w with
  | some a => some (.d (.bool (Ts.any (isT a))), m)
  | none => none
def eIsi (Ts : List String) (f : Em Wd) : Em Wd := e1 (isiO Ts) f
/-- methods of lists -/
def appO : Wd → List Wd → Mm → Option (Wd × Mm) := fun x ws m => match x, ws with
  | .ref n, [w] => match m.cells[n]? with
    | some (.lst xs) => if xs.length < LIM then some (.d .none, m.put n (.lst (xs ++ [w])) (w.lt 0)) else none
    | _ => none
  | _, _ => none
def extO : Wd → List Wd → Mm → Option (Wd × Mm) := fun x ws m => match x, ws with
  | .ref n, [.ref k] => match m.cells[n]?, m.cells[k]? with
    | some (.lst xs), some (.lst ys) => if xs.length + ys.length ≤ LIM then some (.d .none, m.put n (.lst (xs ++ ys)) (Wd.ltAll 0 ys)) else none
    | _, _ => none
  | _, _ => none
def popO : Wd → List Wd → Mm → Option (Wd × Mm) := fun x ws m => match x, ws with
  | .ref n, [.d (.int i)] => match m.cells[n]? with
    | some (.lst xs) => if -(2 ^ 63) ≤ i ∧ i < 2 ^ 63 then (match seqIndex? i xs.length with
      | some k => match xs[k]? with
        | some w => some (w, m.put n (.lst (xs.eraseIdx k)) true)
        | none => none
      | none => none) else none
    | _ => none
  | .ref n, [] => match m.cells[n]? with
    | some (.lst xs) => match xs[xs.length - 1]? with
      | some w => some (w, m.put n (.lst xs.dropLast) true)
      | none => none
    | _ => none
  | _, _ => none
def eM (g : Wd → List Wd → Mm → Option (Wd × Mm)) (f : Em Wd) (fa : Em (List Wd)) : Em Wd := fun env m => (f env m).bind fun w m => match w with
  | .ref n => match m.cells[n]? with
    | some (.lst _) => (fa env m).bind fun ws m => Rs.of (g w ws m)
    | _ => .stuck
  | _ => .stuck
/-- x[i] = v, x[i] op= v -/
def setO (x i v : Wd) (m : Mm) : Option Mm := match x, i with
  | .ref n, .d (.int k) => match m.cells[n]? with
    | some (.lst xs) => match ixN xs.length k with
      | some j => some (m.put n (.lst (xs.set j v)) (v.lt 0))
      | none => none
    | _ => none
  | _, _ => none
def sSub (fo fi fv : Em Wd) : Sm := fun env m => rs (fv env m) env fun v m => rs (fo env m) env fun o m => rs (fi env m) env fun i m => match setO o i v m with
  | some m => .go .nx env m
  | none => .stuck
def sAugS (g : Op2) (fo fi fv : Em Wd) : Sm := fun env m => rs (fo env m) env fun o m => rs (fi env m) env fun i m => rs (Rs.of (ixO o i m)) env fun x m => rs (fv env m) env fun y m => rs (Rs.of (g x y m)) env fun z m => match setO o i z m with
  | some m => .go .nx env m
  | none => .stuck
def sAug (i : Nat) (g : Op2) (f : Em Wd) : Sm := fun env m => match env[i]? with
  | some (some x) => rs (f env m) env fun y m => rs (Rs.of (g x y m)) env fun z m => .go .nx (env.set i (some z)) m
  | _ => .stuck

section
variable {K : PySem.W.Frag} {W : L2.WX} {ι : List Addr} {H : Hp} {σ : L2.St} {m : Mm} {X : Cx}
theorem seqOf_ok {w : Wd} {ws : List Wd} {v : V} (mo : MemOk K ι m H) (e : seqOf m w = some ws) (r : RelW K ι H w v) : ∃ a vs, v = .ref a ∧ (SqL K H a vs ∨ SqT K H a vs) ∧ RelWs K ι H ws vs := by
  cases r with
  | d h =>
    cases h with
    | tup h hs => cases e; exact ⟨_, _, rfl, .inr h, hs.ws⟩
    | _ => cases e
  | tup h hs => cases e; exact ⟨_, _, rfl, .inr h, hs⟩
  | rol h hs => cases e; exact ⟨_, _, rfl, .inl h.sqL, hs⟩
  | v _ => cases e
  | ref h =>
    simp only [seqOf] at e
    split at e
    · rename_i xs hc
      cases e
      obtain ⟨vs, q, r⟩ := mo.cell _ _ _ h hc
      exact ⟨_, vs, rfl, .inl (SqL.of q), r⟩
    · cases e
theorem vals_one {ws : List V} {w : Wd} (h : RelWs K ι H [w] ws) : ∃ v, ws = [v] ∧ RelW K ι H w v := by
  cases h with
  | cons h hs => cases hs; exact ⟨_, rfl, h⟩
theorem c_len : CallR X (.builtin "len") (rON X.K lenO) := by
  refine CallRimp (CallR.or call_len call_lenD) fun xs H Q ⟨ι, m, ws, mo, ra, p⟩ => ?_
  unfold lenO at p
  split at p
  · rename_i x
    split at p
    · rename_i hl
      obtain ⟨v, rfl, r⟩ := vals_one ra
      exact .inl ⟨_, x.length, rfl, by rw [relW_str r]; exact ⟨by rw [← LIM_eq]; exact hl, rfl⟩, post_ok p mo (.d (.int _))⟩
    · exact p.elim
  · rename_i n
    split at p
    · rename_i xs hc
      obtain ⟨v, rfl, r⟩ := vals_one ra
      obtain ⟨a, rfl, e⟩ := relW_ref r
      obtain ⟨vs, q, rv⟩ := mo.cell _ _ _ e hc
      exact .inl ⟨_, vs.length, rfl, .inl ⟨vs, SqL.of q, rfl⟩, by rw [← rv.length]; exact post_ok p mo (.d (.int _))⟩
    · rename_i kvs hc
      obtain ⟨v, rfl, r⟩ := vals_one ra
      obtain ⟨a, rfl, e⟩ := relW_ref r
      obtain ⟨ks, q, rv⟩ := mo.cell _ _ _ e hc
      have len : kvs.length = ks.length := by
        clear p hc q
        induction kvs generalizing ks with
        | nil => cases ks with
          | nil => rfl
          | cons _ _ => exact rv.elim
        | cons k kvs ih => cases ks with
          | nil => obtain ⟨_, _⟩ := k; exact rv.elim
          | cons _ ks => obtain ⟨_, _⟩ := k; exact congrArg (· + 1) (ih ks rv.2.2)
      exact .inr ⟨a, ks, rfl, q, by rw [← len]; exact post_ok p mo (.d (.int _))⟩
    · exact p.elim
  · rename_i w _ _
    split at p
    · rename_i xs e
      obtain ⟨v, rfl, r⟩ := vals_one ra
      obtain ⟨a, vs, rfl, h, rv⟩ := seqOf_ok mo e r
      refine .inl ⟨_, vs.length, rfl, ?_, by rw [← rv.length]; exact post_ok p mo (.d (.int _))⟩
      rcases h with h | h
      · exact .inl ⟨vs, h, rfl⟩
      · exact .inr ⟨vs, h, rfl⟩
    · exact p.elim
  · exact p.elim
theorem flatV_of {x : PyData} {v : V} (r : RelD K H x v) (h : flatD x = true) : flatV v = true := by
  cases r <;> first | rfl | cases h
theorem eqV_of {x y : PyData} {v u : V} (r : RelD K H x v) (r' : RelD K H y u) (h : flatD x = true) (h' : flatD y = true) : eqV v u = PyData.eqv x y := by
  cases r <;> cases r' <;> first | rfl | (cases h; done) | (cases h'; done)
theorem inV_of {x : PyData} {v : V} (r : RelD K H x v) (hx : flatD x = true) : ∀ {ys : List Wd} {vs : List V}, RelWs K ι H ys vs → ys.all flatW = true → vs.all flatV = true ∧ inV v vs = ys.any (fun z => eqvW z (.d x))
  | _, _, .nil, _ => ⟨rfl, rfl⟩
  | _, _, .cons (w := w) ra rr, h => by
    rw [List.all_cons, Bool.and_eq_true] at h
    obtain ⟨h1, h2⟩ := inV_of r hx rr h.2
    cases ra with
    | d rd =>
      refine ⟨by rw [List.all_cons, flatV_of rd h.1, h1]; rfl, ?_⟩
      show (eqV _ v || inV v _) = (eqvW _ _ || _)
      rw [h2, eqV_of rd r h.1 hx]; rfl
    | ref _ => cases h.1
    | tup _ _ => cases h.1
    | rol _ _ => cases h.1
    | v _ => cases h.1
theorem inB_ok {x y : Wd} {b : Bool} {v u : V} (mo : MemOk K ι m H) (rx : RelW K ι H x v) (ry : RelW K ι H y u) (h : inB x y m = some b) : (∃ (c : Nat) (z : Str), v = .str ⟨#[c]⟩ ∧ u = .str z ∧ b = decide (c ∈ z.cps.toList)) ∨
    ∃ p xs, u = .ref p ∧ (SqL K H p xs ∨ SqT K H p xs) ∧ flatV v = true ∧ xs.all flatV = true ∧ b = inV v xs := by
  unfold inB at h
  split at h
  · rename_i a z
    split at h
    · rename_i c e
      cases h
      refine .inl ⟨c, z, ?_, relW_str ry, rfl⟩
      rw [relW_str rx]
      congr 1
      cases a with
      | mk cps => rw [show cps = #[c] from by rw [← Array.toList_inj]; exact e]
    · cases h
  · split at h
    · rename_i ys e
      split at h
      · rename_i hf
        cases h
        rw [Bool.and_eq_true] at hf
        obtain ⟨a, vs, rfl, h1, rv⟩ := seqOf_ok mo e ry
        cases x with
        | d x =>
          obtain ⟨h2, h3⟩ := inV_of rx.d' hf.1 rv hf.2
          exact .inr ⟨a, vs, rfl, h1, flatV_of rx.d' hf.1, h2, h3.symm⟩
        | ref _ => cases hf.1
        | tup _ => cases hf.1
        | rol _ => cases hf.1
        | v _ => cases hf.1
      · cases h
    · cases h
theorem o_in : OpR X (compareOp .In) (rO X.K inO) := by
  refine OpRimp (OpR.or op_in_sign op_in_seq) fun x y H Q ⟨ι, m, a, b, mo, ra, rb, p⟩ => ?_
  unfold inO at p
  split at p
  · rename_i k hk
    rcases inB_ok mo ra rb hk with ⟨c, z, e1, e2, e3⟩ | ⟨q, xs, e1, h1, h2, h3, e2⟩
    · exact .inl ⟨c, z, e1, e2, by rw [← e3]; exact post_ok p mo (.d (.bl _))⟩
    · exact .inr ⟨q, xs, e1, h1, h2, h3, by rw [if_neg (by decide), ← e2]; exact post_ok p mo (.d (.bl _))⟩
  · exact p.elim
theorem o_ni : OpR X (compareOp .NotIn) (rO X.K niO) := by
  refine OpRimp (OpR.or op_notIn_sign op_notIn_seq) fun x y H Q ⟨ι, m, a, b, mo, ra, rb, p⟩ => ?_
  unfold niO at p
  split at p
  · rename_i k hk
    rcases inB_ok mo ra rb hk with ⟨c, z, e1, e2, e3⟩ | ⟨q, xs, e1, h1, h2, h3, e2⟩
    · exact .inl ⟨c, z, e1, e2, by rw [← e3]; exact post_ok p mo (.d (.bl _))⟩
    · exact .inr ⟨q, xs, e1, h1, h2, h3, by rw [if_pos rfl, ← e2]; exact post_ok p mo (.d (.bl _))⟩
  · exact p.elim
theorem isNone_ok {x : Wd} {v : V} {b : Bool} (r : RelW K ι H x v) (h : isNoneW x = some b) : decide (v = .non) = b := by
  cases r with
  | d r => cases r <;> (cases h; rfl)
  | ref _ => cases h; rfl
  | tup _ _ => cases h; rfl
  | rol _ _ => cases h; rfl
  | v _ => cases h
theorem o_isN : OpR X (compareOp .Is) (rO X.K isNO) := by
  refine OpRimp op_isN fun x y H Q ⟨ι, m, a, b, mo, ra, rb, p⟩ => ?_
  unfold isNO at p
  split at p
  · split at p
    · rename_i k hk
      exact ⟨relW_non rb, by rw [isNone_ok ra hk]; exact post_ok p mo (.d (.bl _))⟩
    · exact p.elim
  · exact p.elim
theorem o_nn : OpR X (compareOp .IsNot) (rO X.K nnO) := by
  refine OpRimp op_notN fun x y H Q ⟨ι, m, a, b, mo, ra, rb, p⟩ => ?_
  unfold nnO at p
  split at p
  · split at p
    · rename_i k hk
      exact ⟨relW_non rb, by rw [isNone_ok ra hk]; exact post_ok p mo (.d (.bl _))⟩
    · exact p.elim
  · exact p.elim
theorem atI_ok {xs : List Wd} {vs : List V} {i : Int} {w : Wd} (r : RelWs K ι H xs vs) (h : atI xs i = some w) : ∃ v, atI vs i = some v ∧ RelW K ι H w v := by
  unfold atI at h ⊢
  rw [← r.length]
  obtain ⟨j, h1, h2⟩ := Option.bind_eq_some_iff.mp h
  obtain ⟨v, q1, q2⟩ := r.get h2
  exact ⟨v, by rw [h1]; exact q1, q2⟩
theorem i_ix : IxR X (rO X.K ixO) := by
  refine IxRimp (IxR.or ix_str (IxR.or ix_list ix_tup)) fun x y H Q ⟨ι, m, a, b, mo, ra, rb, p⟩ => ?_
  unfold ixO at p
  split at p
  · rename_i z i
    split at p
    · rename_i hl
      split at p
      · rename_i c hc
        exact .inl ⟨z, i, c, relW_str ra, relW_int rb, by rw [← LIM_eq]; exact hl, hc, post_ok p mo (.d (.str _))⟩
      · exact p.elim
    · exact p.elim
  · rename_i i _
    split at p
    · rename_i xs e
      split at p
      · rename_i w hw
        obtain ⟨a1, vs, rfl, h, rv⟩ := seqOf_ok mo e ra
        obtain ⟨v, q1, q2⟩ := atI_ok rv hw
        rcases h with h | h
        · exact .inr (.inl ⟨a1, vs, i, v, rfl, relW_int rb, h, q1, post_ok p mo q2⟩)
        · exact .inr (.inr ⟨a1, vs, i, v, rfl, relW_int rb, h, q1, post_ok p mo q2⟩)
      · exact p.elim
    · exact p.elim
  · exact p.elim
theorem cut_ok {xs : List Wd} {vs : List V} (r : RelWs K ι H xs vs) (lo hi : Option Int) : RelWs K ι H (cutW xs lo hi) (cutV vs lo hi) := by
  unfold cutW cutV
  rw [r.length]
  exact (r.drop _).take _
theorem o_abs : CallR X (.builtin "abs") (rON X.K absO) := by
  refine CallRimp call_abs fun xs H Q ⟨ι, m, ws, mo, ra, p⟩ => ?_
  unfold absO at p
  split at p
  · rename_i i
    obtain ⟨v, rfl, r⟩ := vals_one ra
    exact ⟨i, by rw [relW_int r], post_ok p mo (.d (.int _))⟩
  · exact p.elim
theorem o_int1 : CallR X (.type "int") (rON X.K intO1) := by
  refine CallRimp call_int1 fun xs H Q ⟨ι, m, ws, mo, ra, p⟩ => ?_
  unfold intO1 at p
  split at p
  · rename_i i
    obtain ⟨v, rfl, r⟩ := vals_one ra
    exact .inl ⟨i, by rw [relW_int r], post_ok p mo (.d (.int _))⟩
  · rename_i b
    obtain ⟨v, rfl, r⟩ := vals_one ra
    exact .inr ⟨b, by rw [relW_bl r], post_ok p mo (.d (.int _))⟩
  · exact p.elim
theorem o_list : CallR X (.type "list") (rON X.K listO) := by
  refine CallRimp call_list_of fun xs H Q ⟨ι, m, ws, mo, ra, p⟩ => ?_
  unfold listO at p
  split at p
  · rename_i w
    split at p
    · rename_i ys e
      obtain ⟨v, rfl, r⟩ := vals_one ra
      obtain ⟨a1, vs, rfl, h, rv⟩ := seqOf_ok mo e r
      exact ⟨a1, vs, rfl, h, fun q hq => let ⟨a, b⟩ := cell_new mo hq rv; p _ _ _ (stp_new hq) a b⟩
    · exact p.elim
  · exact p.elim
theorem o_tuple : CallR X (.type "tuple") (rON X.K tupleO) := by
  refine CallRimp call_tuple_of fun xs H Q ⟨ι, m, ws, mo, ra, p⟩ => ?_
  unfold tupleO at p
  split at p
  · rename_i w
    split at p
    · rename_i ys e
      obtain ⟨v, rfl, r⟩ := vals_one ra
      obtain ⟨a1, vs, rfl, h, rv⟩ := seqOf_ok mo e r
      refine ⟨a1, vs, rfl, ?_⟩
      rcases h with h | h
      · exact .inl ⟨h, fun q hq => p ι _ _ (stp_tup hq) (mo.tup hq) (mkTup_ok (SqT.of upd_same) (rv.step mo.apart (stp_tup hq)))⟩
      · exact .inr ⟨h, post_ok p mo (mkTup_ok h rv)⟩
    · exact p.elim
  · exact p.elim
theorem bools_ok : ∀ {ws : List Wd} {vs : List V} {bs : List Bool}, RelWs K ι H ws vs → boolsW ws = some bs → vs = bs.map V.bl
  | [], _, _, .nil, h => by cases h; rfl
  | .d (.bool b) :: r, _, _, .cons ra rr, h => by
    obtain ⟨bs, h1, h2⟩ := Option.map_eq_some_iff.mp (show (boolsW r).map (b :: ·) = some _ from h)
    subst h2
    rw [relW_bl ra, bools_ok rr h1]; rfl
  | .d .none :: _, _, _, _, h => by cases h
  | .d (.int _) :: _, _, _, _, h => by cases h
  | .d (.str _) :: _, _, _, _, h => by cases h
  | .d (.list _) :: _, _, _, _, h => by cases h
  | .d (.tuple _) :: _, _, _, _, h => by cases h
  | .d (.dict _) :: _, _, _, _, h => by cases h
  | .ref _ :: _, _, _, _, h => by cases h
  | .tup _ :: _, _, _, _, h => by cases h
  | .rol _ :: _, _, _, _, h => by cases h
  | .v _ :: _, _, _, _, h => by cases h
theorem o_all (hc : X.calm = true) : CallR X (.builtin "all") (rON X.K allO) := by
  refine CallRimp (cr_all hc) fun xs H Q ⟨ι, m, ws, mo, ra, p⟩ => ?_
  unfold allO at p
  split at p
  · rename_i n
    split at p
    · rename_i ys hc
      split at p
      · rename_i bs hb
        obtain ⟨v, rfl, r⟩ := vals_one ra
        obtain ⟨a, rfl, e⟩ := relW_ref r
        obtain ⟨vs, q, rv⟩ := mo.cell _ _ _ e hc
        rw [bools_ok rv hb] at q
        exact ⟨a, bs, rfl, SqL.of q, post_ok p mo (.d (.bl _))⟩
      · exact p.elim
    · exact p.elim
  · exact p.elim
theorem o_any (hc : X.calm = true) : CallR X (.builtin "any") (rON X.K anyO) := by
  refine CallRimp (cr_any hc) fun xs H Q ⟨ι, m, ws, mo, ra, p⟩ => ?_
  unfold anyO at p
  split at p
  · rename_i n
    split at p
    · rename_i ys hc
      split at p
      · rename_i bs hb
        obtain ⟨v, rfl, r⟩ := vals_one ra
        obtain ⟨a, rfl, e⟩ := relW_ref r
        obtain ⟨vs, q, rv⟩ := mo.cell _ _ _ e hc
        rw [bools_ok rv hb] at q
        exact ⟨a, bs, rfl, SqL.of q, post_ok p mo (.d (.bl _))⟩
      · exact p.elim
    · exact p.elim
  · exact p.elim
end
end DL
set_option Elab.async false
set_option linter.all false
set_option maxRecDepth 100000
set_option maxHeartbeats 2000000
namespace DL
open PySem PySem.Spec PyProof.Rows L2
section
variable {K : PySem.W.Frag} {W : L2.WX} {ι : List Addr} {H : Hp} {σ : L2.St} {m : Mm} {X : Cx}
/-! ### parts -/
theorem cutV_all {xs : List V} {lo hi : Option Int} (h1 : HT.sIx xs.length 0 lo = 0) (h2 : HT.sIx xs.length xs.length hi = xs.length) : cutV xs lo hi = xs := by
  unfold cutV; rw [h1, h2]; simp
/-- the whole of a tuple is itself -/
theorem sl_tupW : SlR X (fun x lo hi H Q => ∃ a xs, x = .ref a ∧ SqT X.K H a xs ∧ (HT.sIx xs.length 0 lo = 0 ∧ HT.sIx xs.length xs.length hi = xs.length) ∧ Q (.ref a) H) := by
  intro pins s σ H x v vl vu lo hi sl Q I rx hs pl pu h
  obtain ⟨a, xs, rfl, hx, hw, q⟩ := h
  cases rx
  obtain ⟨its, r, ht, hz⟩ := I.tuple hx
  have hlen : its.toArray.size = xs.length := by rw [List.size_toArray]; exact r.length.symm
  refine ⟨"tuple", _, PyProof.Rows.slot_tuple_getitem.lookup, ht.typeIs, ?_⟩
  rw [← hlen] at hw
  obtain ⟨os, hos, hcs, hds⟩ := id hs
  have hTs : s.TypeIs (.ref sl) "slice" := ⟨os, hos, hcs⟩
  unfold getItem
  try with_reducible refine wpAny_holding ?_
  first | refine wpAny_bind (wpAny_pure ?_) | skip
  refine wpAny_bind (wpAny_sequenceKey ht.typeIs (by decide) ?_)
  refine wpAny_bind (wpAny_callSpecial?_slot (name := Str.ofString "__getitem__") ht.typeIs PyProof.Rows.slot_tuple_getitem
    (wpAny_call_entry PyProof.Rows.slot_tuple_getitem ht.typeIs entry_tuple_getitem ?_ (args_tuple_getitem _ _)))
  show wpAny _ _ (Builtin.Tuple.tupleItemsOf (.ref a) >>= _) _ _ s
  refine wpAny_bind (tupleItemsOf_ ht ?_)
  refine wpAny_bind (wpAny_typeOf hTs ?_)
  rw [if_pos (by decide)]
  refine wpAny_bind (HT.sliceApplied_gen hs pl pu ?_)
  have hyes : ((((HT.sIx its.toArray.size 0 lo : Nat) : Int) == 0 && (1 : Int) == 1 && (HT.sIx its.toArray.size its.toArray.size hi - HT.sIx its.toArray.size 0 lo) == its.toArray.size) = true) := by
    rw [hw.1, hw.2]; simp
  show wpAny _ _ (if (((HT.sIx its.toArray.size 0 lo : Nat) : Int) == 0 && (1 : Int) == 1 && (HT.sIx its.toArray.size its.toArray.size hi - HT.sIx its.toArray.size 0 lo) == its.toArray.size) = true then _ else _) _ _ s
  rw [if_pos hyes]
  have fin : EP X pins σ Q (.ref a) s := ⟨.ref a, H, I, rfl, q⟩
  refine wpAny_bind ?_
  unfold Builtin.Tuple.tupleIsExact
  refine wpAny_bind (wpAny_typeOf ht.typeIs (wpAny_pure ?_))
  rw [if_pos (by decide)]
  exact wpAny_bind (wpAny_rule (wpAny_pure ⟨_, rfl, wpAny_pure fin⟩))
def rSl (K : PySem.W.Frag) : V → Option Int → Option Int → Hp → VK → Prop := fun x lo hi H Q => ∃ ι m w, MemOk K ι m H ∧ RelW K ι H w x ∧ Post K W0 (RelW K) ι H [] Q (Rs.of (slO w lo hi m))
theorem SlRimp {r r' : V → Option Int → Option Int → Hp → VK → Prop} (h : SlR X r) (i : ∀ x lo hi H Q, r' x lo hi H Q → r x lo hi H Q) : SlR X r' :=
  fun pins s σ H x v vl vu lo hi sl Q I rx hs pl pu q => h pins s σ H x v vl vu lo hi sl Q I rx hs pl pu (i _ _ _ _ _ q)
theorem s_sl : SlR X (rSl X.K) := by
  refine SlRimp (SlR.or sl_str (SlR.or sl_list (SlR.or sl_tup sl_tupW))) fun x lo hi H Q ⟨ι, m, w, mo, r, p⟩ => ?_
  unfold slO at p
  split at p
  · rename_i z
    split at p
    · rename_i hl
      exact .inl ⟨z, relW_str r, by rw [← LIM_eq]; exact hl, post_ok p mo (.d (.str _))⟩
    · exact p.elim
  · rename_i n
    split at p
    · rename_i xs hc
      obtain ⟨a, rfl, e⟩ := relW_ref r
      obtain ⟨vs, q, rv⟩ := mo.cell _ _ _ e hc
      exact .inr (.inl ⟨a, vs, rfl, SqL.of q, fun p' hp => let ⟨c1, c2⟩ := cell_new mo hp (cut_ok rv lo hi); p _ _ _ (stp_new hp) c1 c2⟩)
    · exact p.elim
  · rename_i xs
    cases r with
    | rol h rv => exact .inr (.inl ⟨_, _, rfl, h.sqL, fun p' hp => let ⟨c1, c2⟩ := cell_new mo hp (cut_ok rv lo hi); p _ _ _ (stp_new hp) c1 c2⟩)
  · split at p
    · rename_i xs e
      obtain ⟨a, vs, rfl, h, rv⟩ := tupOf_ok e r
      by_cases hw : HT.sIx vs.length 0 lo = 0 ∧ HT.sIx vs.length vs.length hi = vs.length
      · have hw' : cutW xs lo hi = xs := by
          unfold cutW; rw [rv.length, hw.1, hw.2, ← rv.length]; simp
        rw [hw'] at p
        exact .inr (.inr (.inr ⟨a, vs, rfl, h, hw, post_ok p mo (mkTup_ok h rv)⟩))
      · exact .inr (.inr (.inl ⟨a, vs, rfl, h, hw, fun p' hp => p ι _ _ (stp_tup hp) (mo.tup hp) (mkTup_ok (SqT.of upd_same) ((cut_ok rv lo hi).step mo.apart (stp_tup hp)))⟩))
    · exact p.elim
abbrev tO (K : PySem.W.Frag) (W : L2.WX) (f : Eo) : TO := tG K W (fun _ _ a b => a = b) f
theorem POimp {e : Option Expr} {t t' : TO} (h : PO X e t) (i : ∀ σ H Q, t' σ H Q → t σ H Q) : PO X e t' := ⟨fun pins s σ H Q I hw => h.run pins s σ H Q I (i σ H Q hw)⟩
theorem do_none : PO X none (tO X.K W oNone) := POimp po_none fun σ H Q ⟨ι, env, m, eo, mo, p⟩ => post_ok p mo rfl
theorem do_some {e : Expr} {f : Em Wd} (h : PE X e (tE X.K W f)) : PO X (some e) (tO X.K W (oSome f)) :=
  POimp (po_some h) fun σ H Q ⟨ι, env, m, eo, mo, p⟩ => Post.bind eo mo p fun ι1 H1 a x m1 st1 mo1 eo1 ra p1 => by
    split at p1
    · rename_i i
      exact ⟨i, relW_int ra, post_ok p1 mo1 rfl⟩
    · exact p1.elim
theorem de_sl {e : Expr} {lo hi : Option Expr} {f : Em Wd} {fl fh : Eo} {p2 pos : Pos} (he : PE X e (tE X.K W f)) (hl : PO X lo (tO X.K W fl)) (hu : PO X hi (tO X.K W fh)) : PE X (.Subscript e (.Slice lo hi none p2) pos) (tE X.K W (eSl f fl fh)) :=
  PEimp (pe_slice s_sl he hl hu) fun σ H Q ⟨ι, env, m, eo, mo, p⟩ => Post.bind eo mo p fun ι1 H1 a x m1 st1 mo1 eo1 ra p1 => Post.bind eo1 mo1 p1 fun ι2 H2 l l' m2 st2 mo2 eo2 rl p2 => Post.bind eo2 mo2 p2 fun ι3 H3 h h' m3 st3 mo3 eo3 rh p3 => by
    subst rl; subst rh
    exact ⟨ι3, m3, a, mo3, (ra.step mo1.apart st2).step mo2.apart st3, p3.w0⟩
/-! ### isinstance -/
theorem kitB_of {a T : String} (ha : a ∈ ["NoneType", "bool", "int", "str", "tuple", "list", "dict"]) (hT : T ∈ ["bool", "int", "str", "tuple", "list", "dict"]) : kitB a T = some (isT a T) := by
  have all : (["NoneType", "bool", "int", "str", "tuple", "list", "dict"].all fun a => ["bool", "int", "str", "tuple", "list", "dict"].all fun T => decide (kitB a T = some (isT a T))) = true := by decide +kernel
  exact of_decide_eq_true (List.all_eq_true.mp (List.all_eq_true.mp all a ha) T hT)
theorem tyX_tup {a : Addr} {vs : List V} (h : SqT K H a vs) : TyX K H (.ref a) (.type "tuple") := by
  rcases h with (h | ⟨o, h⟩) | ⟨o, its, n, h, c, _⟩
  · exact .base (.tup h)
  · exact .fTuple h
  · exact .kTuple h c
theorem tyX_rol {a : Addr} {vs : List V} (h : Rol K H a vs) : TyX K H (.ref a) (.type "list") := by
  rcases h with ⟨o, h⟩ | ⟨o, its, n, h, c, _⟩
  · exact .base (.frz h)
  · exact .kList h c
theorem tyName_ok {w : Wd} {v : V} {a : String} (mo : MemOk K ι m H) (r : RelW K ι H w v) (h : tyName m w = some a) : TyX K H v (.type a) ∧ a ∈ ["NoneType", "bool", "int", "str", "tuple", "list", "dict"] := by
  cases r with
  | d r =>
    cases r with
    | non => cases h; exact ⟨.base .non, by decide⟩
    | bl _ => cases h; exact ⟨.base (.bl _), by decide⟩
    | int _ => cases h; exact ⟨.base (.int _), by decide⟩
    | str _ => cases h; exact ⟨.base (.str _), by decide⟩
    | tup q _ => cases h; exact ⟨tyX_tup q, by decide⟩
  | tup q _ => cases h; exact ⟨tyX_tup q, by decide⟩
  | rol q _ => cases h; exact ⟨tyX_rol q, by decide⟩
  | v _ => cases h
  | ref e =>
    simp only [tyName] at h
    split at h
    · rename_i xs hc
      cases h
      obtain ⟨vs, q, _⟩ := mo.cell _ _ _ e hc
      exact ⟨.base (.lst q), by decide⟩
    · rename_i xs hc
      cases h
      obtain ⟨vs, q, _⟩ := mo.cell _ _ _ e hc
      exact ⟨.base (.dK q), by decide⟩
    · cases h
theorem de_isi {T : String} {x : Str} {e : Expr} {f : Em Wd} {p p2 pos : Pos} (hT : T ∈ ["bool", "int", "str", "tuple", "list", "dict"]) (hg : Gl X "isinstance") (hm : X.mg "isinstance" = none) (hgT : Gl X x) (hmT : X.mg x = none) (hvT : bootBuiltins x = some (.type T)) (he : PE X e (tE X.K W f))
    (hv : bootBuiltins "isinstance" = some (.builtin "isinstance")) (hn : x ≠ "__name__" := by decide) (hd : (x == ("__debug__" : Str)) = false := by decide)
    (hs : starEach [e, .Name x p2] X.env = (false, eval e X.env) :: starEach [.Name x p2] X.env := by rfl) (hs2 : starEach [.Name x p2] X.env = (false, eval (.Name x p2) X.env) :: starEach [] X.env := by rfl) (hpl : (backTo pos (starEach [.Name x p2] X.env)).any (·.1) = false := by rfl) :
    PE X (.Call (.Name "isinstance" p) [e, .Name x p2] [] pos) (tE X.K W (eIsi [T] f)) :=
  PEimp (pe_callB call_isi hg hm hv (pa_cons he (pa_cons (pe_bltn (v := .ty T) hgT hmT hvT rfl hn hd) pa_nil hs2) hs) (by decide) (by decide) hs hpl) fun σ H Q ⟨ι, env, m, eo, mo, p⟩ => Post.bind eo mo p fun ι1 H1 a v m1 st1 mo1 eo1 ra p1 => by
    unfold isiO at p1
    cases q : tyName m1 a with
    | none => rw [q] at p1; exact p1.elim
    | some t =>
      rw [q] at p1
      obtain ⟨h1, h2⟩ := tyName_ok mo1 ra q
      refine ⟨v, .ty T, _, _, _, rfl, .ty T, h1, kit_ty (kitB_of h2 hT), ?_⟩
      have := post_ok p1 mo1 (.d (.bl _))
      simpa using this
theorem de_isi2 {T U : String} {x y : Str} {e : Expr} {f : Em Wd} {p p2 p3 p4 pos : Pos} {kk} (hT : T ∈ ["bool", "int", "str", "tuple", "list", "dict"]) (hU : U ∈ ["bool", "int", "str", "tuple", "list", "dict"]) (hg : Gl X "isinstance") (hm : X.mg "isinstance" = none) (hgT : Gl X x) (hmT : X.mg x = none) (hvT : bootBuiltins x = some (.type T))
    (hgU : Gl X y) (hmU : X.mg y = none) (hvU : bootBuiltins y = some (.type U)) (he : PE X e (tE X.K W f)) (hv : bootBuiltins "isinstance" = some (.builtin "isinstance")) (hn : x ≠ "__name__" := by decide) (hd : (x == ("__debug__" : Str)) = false := by decide) (hn2 : y ≠ "__name__" := by decide) (hd2 : (y == ("__debug__" : Str)) = false := by decide)
    (hs : starEach [e, .Tuple [.Name x p2, .Name y p3] kk p4] X.env = (false, eval e X.env) :: starEach [.Tuple [.Name x p2, .Name y p3] kk p4] X.env := by rfl) (hs2 : starEach [.Tuple [.Name x p2, .Name y p3] kk p4] X.env = (false, eval (.Tuple [.Name x p2, .Name y p3] kk p4) X.env) :: starEach [] X.env := by rfl)
    (hs3 : starEach [.Name x p2, .Name y p3] X.env = (false, eval (.Name x p2) X.env) :: starEach [.Name y p3] X.env := by rfl) (hs4 : starEach [.Name y p3] X.env = (false, eval (.Name y p3) X.env) :: starEach [] X.env := by rfl)
    (hpl : (backTo pos (starEach [.Tuple [.Name x p2, .Name y p3] kk p4] X.env)).any (·.1) = false := by rfl) :
    PE X (.Call (.Name "isinstance" p) [e, .Tuple [.Name x p2, .Name y p3] kk p4] [] pos) (tE X.K W (eIsi [T, U] f)) :=
  PEimp (pe_callB call_isiT hg hm hv (pa_cons he (pa_cons (pe_tup (pa_cons (pe_bltn (v := .ty T) hgT hmT hvT rfl hn hd) (pa_cons (pe_bltn (v := .ty U) hgU hmU hvU rfl hn2 hd2) pa_nil hs4) hs3)) pa_nil hs2) hs) (by decide) (by decide) hs hpl) fun σ H Q ⟨ι, env, m, eo, mo, p⟩ => Post.bind eo mo p fun ι1 H1 a v m1 st1 mo1 eo1 ra p1 => by
    unfold isiO at p1
    cases q : tyName m1 a with
    | none => rw [q] at p1; exact p1.elim
    | some t =>
      rw [q] at p1
      refine ⟨by show 2 ≤ sizeLine; rw [← LIM_eq]; decide, fun q' hq => ?_⟩
      have st2 : Stp ι1 H1 ι1 (upd H1 q' (.tup [V.ty T, V.ty U])) := stp_tup hq
      obtain ⟨h1, h2⟩ := tyName_ok (mo1.tup hq) (ra.step mo1.apart st2) q
      refine ⟨v, q', _, _, _, (isT t T || isT t U), rfl, upd_same, .cons (.ty T) (.cons (.ty U) .nil), h1, ?_, ?_⟩
      · refine kitAny_cons (kit_ty (kitB_of h2 hT)) (r := isT t T || isT t U) (fun e => ?_) (fun e => by rw [e]; rfl)
        rw [e]
        exact kitAny_cons (kit_ty (kitB_of h2 hU)) (r := isT t U) (fun e => by rw [e]; exact kitAny_nil) (fun e => e)
      · have := p1 ι1 _ (.bl _) st2 (mo1.tup hq) (.d (.bl _))
        simpa using this
end
end DL
set_option Elab.async false
set_option linter.all false
set_option maxRecDepth 100000
set_option maxHeartbeats 2000000
namespace DL
open PySem PySem.Spec PyProof.Rows L2
/-- a, b = x, y -/
def setsE : List Nat → List Wd → Env → Option Env
  | [], [], env => some env
  | i :: r, w :: ws, env => setsE r ws (env.set i (some w))
  | _, _, _ => none
def sPar (is : List Nat) (f : Em (List Wd)) : Sm := fun env m => rs (f env m) env fun ws m => match setsE is ws env with
  | some env => .go .nx env m
  | none => .stuck
/-! ### what may be walked -/
def iVal (f : Em Wd) : Em (List Wd × Gd) := fun env m => (f env m).bind fun w m => match w with
  | .d (.tuple ds) => .ok (ds.map .d, []) m
  | .tup ws => .ok (ws, []) m
  | .rol ws => .ok (ws, []) m
  | .ref n => match m.cells[n]? with
    | some (.lst xs) => .ok (xs, [(n, .lst xs)]) m
    | _ => .stuck
  | .d (.str x) => .ok (x.cps.toList.map fun c => .d (.str ⟨#[c]⟩), []) m
  | _ => .stuck
def range62 (i : Int) : Bool := decide (-(2 ^ 62) ≤ i ∧ i < 2 ^ 62)
def intsFrom (lo : Int) (n : Nat) : List Wd := (List.range n).map fun (k : Nat) => .d (.int (lo + k))
def iRan1 (f : Em (List Wd)) : Em (List Wd × Gd) := fun env m => (f env m).bind fun ws m => match ws with
  | [.d (.int j)] => if range62 j = true then .ok (intsFrom 0 j.toNat, []) m else .stuck
  | _ => .stuck
def iRan2 (f : Em (List Wd)) : Em (List Wd × Gd) := fun env m => (f env m).bind fun ws m => match ws with
  | [.d (.int i), .d (.int j)] => if (range62 i && range62 j) = true then .ok (intsFrom i (j - i).toNat, []) m else .stuck
  | _ => .stuck
section
variable {K : PySem.W.Frag} {W : L2.WX} {ι ι0 : List Addr} {H H0 : Hp} {env : Env} {σ : L2.St} {m : Mm} {X : Cx}
/-! ### methods of lists -/
theorem post_eM {g : Wd → List Wd → Mm → Option (Wd × Mm)} {r : V → List V → Hp → VK → Prop} {fo : Em Wd} {fa : Em (List Wd)} {Q : VK} (hg : ∀ ι m H w x ws xs Q, MemOk K ι m H → RelW K ι H w x → RelWs K ι H ws xs → Post K W0 (RelW K) ι H [] Q (Rs.of (g w ws m)) → r x xs H Q)
    (h : tE K W (eM g fo fa) σ H Q) : tBM K "list" r (tE K W fo) (tA K W fa) σ H Q := by
  obtain ⟨ι, env, m, eo, mo, p⟩ := h
  refine Post.bind eo mo p fun ι1 H1 a x m1 st1 mo1 eo1 ra p1 => ?_
  split at p1
  · rename_i n
    split at p1
    · rename_i xs hc
      obtain ⟨a, rfl, e⟩ := relW_ref ra
      obtain ⟨vs, q, rv⟩ := mo1.cell _ _ _ e hc
      refine ⟨.inl ⟨rfl, vs, SqL.of q⟩, ?_⟩
      exact Post.bind eo1 mo1 p1 fun ι2 H2 b y m2 st2 mo2 eo2 rb p2 => hg ι2 m2 H2 _ _ b y Q mo2 (ra.step mo1.apart st2) rb p2.w0
    · exact p1.elim
  · exact p1.elim
theorem post_eM0 {g : Wd → List Wd → Mm → Option (Wd × Mm)} {r : V → List V → Hp → VK → Prop} {fo : Em Wd} {Q : VK} (hg : ∀ ι m H w x ws xs Q, MemOk K ι m H → RelW K ι H w x → RelWs K ι H ws xs → Post K W0 (RelW K) ι H [] Q (Rs.of (g w ws m)) → r x xs H Q)
    (h : tE K W (eM g fo aN) σ H Q) : tBM0 K "list" r (tE K W fo) σ H Q := by
  obtain ⟨ι, env, m, eo, mo, p⟩ := h
  refine Post.bind eo mo p fun ι1 H1 a x m1 st1 mo1 eo1 ra p1 => ?_
  split at p1
  · rename_i n
    split at p1
    · rename_i xs hc
      obtain ⟨a, rfl, e⟩ := relW_ref ra
      obtain ⟨vs, q, rv⟩ := mo1.cell _ _ _ e hc
      exact ⟨.inl ⟨rfl, vs, SqL.of q⟩, hg ι1 m1 H1 _ _ [] [] Q mo1 ra .nil p1.w0⟩
    · exact p1.elim
  · exact p1.elim
theorem ltAll_append (k : Nat) : ∀ xs ys : List Wd, Wd.ltAll k (xs ++ ys) = (Wd.ltAll k xs && Wd.ltAll k ys)
  | [], ys => rfl
  | x :: xs, ys => by
    show (Wd.lt k x && Wd.ltAll k (xs ++ ys)) = ((Wd.lt k x && Wd.ltAll k xs) && Wd.ltAll k ys)
    rw [ltAll_append k xs ys, Bool.and_assoc]
mutual
theorem lt_mono {k l : Nat} (h : k ≤ l) : ∀ w : Wd, Wd.lt k w = true → Wd.lt l w = true
  | .d _, _ => rfl
  | .ref n, e => decide_eq_true (Nat.lt_of_lt_of_le (of_decide_eq_true e) h)
  | .tup xs, e => ltAll_mono h xs e
  | .rol xs, e => ltAll_mono h xs e
  | .v _, _ => rfl
theorem ltAll_mono {k l : Nat} (h : k ≤ l) : ∀ ws : List Wd, Wd.ltAll k ws = true → Wd.ltAll l ws = true
  | [], _ => rfl
  | w :: ws, e => by
    have e' : (Wd.lt k w && Wd.ltAll k ws) = true := e
    rw [Bool.and_eq_true] at e'
    show (Wd.lt l w && Wd.ltAll l ws) = true
    rw [lt_mono h w e'.1, ltAll_mono h ws e'.2]; rfl
end
theorem ltAll_mem {k : Nat} : ∀ {ws : List Wd}, Wd.ltAll k ws = true ↔ ∀ w ∈ ws, Wd.lt k w = true
  | [] => by simp [Wd.ltAll]
  | w :: ws => by
    show (Wd.lt k w && Wd.ltAll k ws) = true ↔ _
    rw [Bool.and_eq_true, ltAll_mem]; simp
/-- a list's cell gets other items -/
theorem cell_put {n : Nat} {a : Addr} {xs ys : List Wd} {us : List V} {pure : Bool} (mo : MemOk K ι m H) (e : ι[n]? = some a) (hc : m.cells[n]? = some (.lst xs)) (r : RelWs K ι H ys us) (hp : pure = true → ∀ w ∈ ys, w ∈ xs ∨ Wd.lt 0 w = true) :
    MemOk K ι (m.put n (.lst ys) pure) (upd H a (.lst us)) ∧ Stp ι H ι (upd H a (.lst us)) := by
  have ha : a ∈ ι := List.mem_of_getElem? e
  refine ⟨mo.put e hc ⟨us, upd_same, r.step mo.apart (stp_set ha)⟩ fun q b hb => ?_, stp_set ha⟩
  refine ltAll_mem.mpr fun w hw => ?_
  rcases hp q w hw with z | z
  · exact ltAll_mem.mp hb w z
  · exact lt_mono (Nat.zero_le _) w z
theorem m_app : ∀ ι m H w x ws xs Q, MemOk K ι m H → RelW K ι H w x → RelWs K ι H ws xs → Post K W0 (RelW K) ι H [] Q (Rs.of (appO w ws m)) → rAppend x xs H Q := by
  intro ι m H w x ws xs Q mo r rs p
  unfold appO at p
  split at p
  · rename_i n w
    split at p
    · rename_i ys hc
      split at p
      · rename_i hl
        obtain ⟨a, rfl, e⟩ := relW_ref r
        obtain ⟨vs, q, rv⟩ := mo.cell _ _ _ e hc
        obtain ⟨y, rfl, ry⟩ := vals_one rs
        have c := cell_put (pure := w.lt 0) mo e hc (rv.append (.cons ry .nil)) fun z u hu => by
          rcases List.mem_append.mp hu with h | h
          · exact .inl h
          · rw [List.mem_singleton.mp h]; exact .inr z
        exact ⟨a, vs, y, rfl, rfl, q, by rw [← rv.length, ← LIM_eq]; exact hl, p ι _ _ c.2 c.1 (.d .non)⟩
      · exact p.elim
    · exact p.elim
  · exact p.elim
theorem m_ext : ∀ ι m H w x ws xs Q, MemOk K ι m H → RelW K ι H w x → RelWs K ι H ws xs → Post K W0 (RelW K) ι H [] Q (Rs.of (extO w ws m)) → rExtend x xs H Q := by
  intro ι m H w x ws xs Q mo r rs p
  unfold extO at p
  split at p
  · rename_i n k
    split at p
    · rename_i ys zs hc hc2
      split at p
      · rename_i hl
        obtain ⟨a, rfl, e⟩ := relW_ref r
        obtain ⟨vs, q, rv⟩ := mo.cell _ _ _ e hc
        obtain ⟨y, rfl, ry⟩ := vals_one rs
        obtain ⟨b, rfl, e2⟩ := relW_ref ry
        obtain ⟨us, q2, ru⟩ := mo.cell _ _ _ e2 hc2
        have c := cell_put (pure := Wd.ltAll 0 zs) mo e hc (rv.append ru) fun z u hu => by
          rcases List.mem_append.mp hu with h | h
          · exact .inl h
          · exact .inr (ltAll_mem.mp z u h)
        exact ⟨a, b, vs, us, rfl, rfl, q, q2, by rw [← rv.length, ← ru.length, ← LIM_eq]; exact hl, p ι _ _ c.2 c.1 (.d .non)⟩
      · exact p.elim
    · exact p.elim
  · exact p.elim
theorem RelWs.eraseIdx : ∀ {ws : List Wd} {vs : List V} (n : Nat), RelWs K ι H ws vs → RelWs K ι H (ws.eraseIdx n) (vs.eraseIdx n)
  | _, _, _, .nil => .nil
  | _, _, 0, .cons h hs => hs
  | _, _, n + 1, .cons h hs => .cons h (RelWs.eraseIdx n hs)
theorem RelWs.dropLast {ws : List Wd} {vs : List V} (r : RelWs K ι H ws vs) : RelWs K ι H ws.dropLast vs.dropLast := by
  rw [List.dropLast_eq_take, List.dropLast_eq_take, r.length]
  exact r.take _
theorem m_pop : ∀ ι m H w x ws xs Q, MemOk K ι m H → RelW K ι H w x → RelWs K ι H ws xs → Post K W0 (RelW K) ι H [] Q (Rs.of (popO w ws m)) → (rPopAt x xs H Q ∨ rPop x xs H Q) := by
  intro ι m H w x ws xs Q mo r rs p
  unfold popO at p
  split at p
  · rename_i n i
    split at p
    · rename_i ys hc
      split at p
      · rename_i hi
        split at p
        · rename_i k hk
          split at p
          · rename_i u hu
            obtain ⟨a, rfl, e⟩ := relW_ref r
            obtain ⟨vs, q, rv⟩ := mo.cell _ _ _ e hc
            obtain ⟨y, rfl, ry⟩ := vals_one rs
            obtain ⟨z, q1, q2⟩ := rv.get hu
            have c := cell_put (pure := true) mo e hc (rv.eraseIdx k) fun _ u hu => .inl (List.mem_of_mem_eraseIdx hu)
            refine .inl ⟨a, vs, i, k, z, rfl, by rw [relW_int ry], q, hi.1, hi.2, by rw [← rv.length]; exact hk, q1, p ι _ _ c.2 c.1 (q2.step mo.apart c.2)⟩
          · exact p.elim
        · exact p.elim
      · exact p.elim
    · exact p.elim
  · rename_i n
    split at p
    · rename_i ys hc
      split at p
      · rename_i u hu
        obtain ⟨a, rfl, e⟩ := relW_ref r
        obtain ⟨vs, q, rv⟩ := mo.cell _ _ _ e hc
        cases rs
        rw [rv.length] at hu
        obtain ⟨z, q1, q2⟩ := rv.get hu
        have c := cell_put (pure := true) mo e hc rv.dropLast fun _ u hu => .inl (List.mem_of_mem_take (by rw [List.dropLast_eq_take] at hu; exact hu))
        exact .inr ⟨a, vs, z, rfl, rfl, q, q1, p ι _ _ c.2 c.1 (q2.step mo.apart c.2)⟩
      · exact p.elim
    · exact p.elim
  · exact p.elim
theorem de_app {o e : Expr} {es : List Expr} {fo : Em Wd} {fa : Em (List Wd)} {apos cpos : Pos} (ho : PE X o (tE X.K W fo)) (ha : PA X (e :: es) (tA X.K W fa))
    (hbase : attributeBase o "append" X.env (eval o X.env) = eval o X.env := by rfl)
    (hfew : ((backTo cpos (starEach (e :: es) X.env)).all (fun x => !x.1) && (backToKw cpos (keywordEach [] X.env)).all (fun x => x.1.isSome)
      && decide ((e :: es).length + ([] : List Keyword).length + (if ([] : List Keyword).isEmpty then 0 else 1) < 30)) = true := by rfl)
    (hline : (apos.endLine == cpos.line) = true := by rfl) (hs : starEach (e :: es) X.env = (false, eval e X.env) :: starEach es X.env := by rfl) (hplain : (backTo cpos (starEach es X.env)).any (·.1) = false := by rfl) :
    PE X (.Call (.Attribute o "append" apos) (e :: es) [] cpos) (tE X.K W (eM appO fo fa)) :=
  PEimp (pe_bm PySem.F.plainAttrs_list PySem.F.slot_list_append PySem.F.type_list_append mt_append ho ha hbase hfew hline hs hplain) fun σ H Q h => post_eM m_app h
theorem de_ext {o e : Expr} {es : List Expr} {fo : Em Wd} {fa : Em (List Wd)} {apos cpos : Pos} (ho : PE X o (tE X.K W fo)) (ha : PA X (e :: es) (tA X.K W fa))
    (hbase : attributeBase o "extend" X.env (eval o X.env) = eval o X.env := by rfl)
    (hfew : ((backTo cpos (starEach (e :: es) X.env)).all (fun x => !x.1) && (backToKw cpos (keywordEach [] X.env)).all (fun x => x.1.isSome)
      && decide ((e :: es).length + ([] : List Keyword).length + (if ([] : List Keyword).isEmpty then 0 else 1) < 30)) = true := by rfl)
    (hline : (apos.endLine == cpos.line) = true := by rfl) (hs : starEach (e :: es) X.env = (false, eval e X.env) :: starEach es X.env := by rfl) (hplain : (backTo cpos (starEach es X.env)).any (·.1) = false := by rfl) :
    PE X (.Call (.Attribute o "extend" apos) (e :: es) [] cpos) (tE X.K W (eM extO fo fa)) :=
  PEimp (pe_bm PySem.F.plainAttrs_list PySem.F.slot_list_extend PySem.F.type_list_extend mt_extend ho ha hbase hfew hline hs hplain) fun σ H Q h => post_eM m_ext h
theorem MtRor {id : String} {r r' : V → List V → Hp → VK → Prop} (h : MtR X id r) (h' : MtR X id r') : MtR X id (fun x xs H Q => r x xs H Q ∨ r' x xs H Q) := MtR.or h h'
theorem de_pop {o e : Expr} {es : List Expr} {fo : Em Wd} {fa : Em (List Wd)} {apos cpos : Pos} (ho : PE X o (tE X.K W fo)) (ha : PA X (e :: es) (tA X.K W fa))
    (hbase : attributeBase o "pop" X.env (eval o X.env) = eval o X.env := by rfl)
    (hfew : ((backTo cpos (starEach (e :: es) X.env)).all (fun x => !x.1) && (backToKw cpos (keywordEach [] X.env)).all (fun x => x.1.isSome)
      && decide ((e :: es).length + ([] : List Keyword).length + (if ([] : List Keyword).isEmpty then 0 else 1) < 30)) = true := by rfl)
    (hline : (apos.endLine == cpos.line) = true := by rfl) (hs : starEach (e :: es) X.env = (false, eval e X.env) :: starEach es X.env := by rfl) (hplain : (backTo cpos (starEach es X.env)).any (·.1) = false := by rfl) :
    PE X (.Call (.Attribute o "pop" apos) (e :: es) [] cpos) (tE X.K W (eM popO fo fa)) :=
  PEimp (pe_bm PySem.F.plainAttrs_list PySem.F.slot_list_pop PySem.F.type_list_pop (MtRor mt_popAt mt_pop) ho ha hbase hfew hline hs hplain) fun σ H Q h => post_eM m_pop h
theorem de_pop0 {o : Expr} {fo : Em Wd} {apos cpos : Pos} (ho : PE X o (tE X.K W fo))
    (hbase : attributeBase o "pop" X.env (eval o X.env) = eval o X.env := by rfl) (hline : (apos.endLine == cpos.line) = true := by rfl) :
    PE X (.Call (.Attribute o "pop" apos) [] [] cpos) (tE X.K W (eM popO fo aN)) :=
  PEimp (pe_bm0 PySem.F.plainAttrs_list PySem.F.slot_list_pop PySem.F.type_list_pop (MtRor mt_popAt mt_pop) ho hbase hline) fun σ H Q h => post_eM0 m_pop h
/-! ### stores -/
def rSet (K : PySem.W.Frag) : TSet := fun o i v H Q => ∃ ι m wo wi w m', MemOk K ι m H ∧ RelW K ι H wo o ∧ RelW K ι H wi i ∧ RelW K ι H w v ∧ setO wo wi w m = some m' ∧ ∀ H', Stp ι H ι H' → MemOk K ι m' H' → Q H'
theorem ixN_len {n k : Nat} {i : Int} (h : ixN n i = some k) : k < n := by
  unfold ixN at h
  split at h
  · split at h
    · cases h; omega
    · cases h
  · split at h
    · cases h; omega
    · cases h
theorem s_set : PSet X (rSet X.K) := by
  intro pins s σ H o i v ov iv u Q I ro ri rv h
  obtain ⟨ι, m, wo, wi, w, m', mo, r1, r2, r3, e, q⟩ := h
  unfold setO at e
  split at e
  · rename_i n k
    split at e
    · rename_i xs hc
      split at e
      · rename_i j hj
        cases e
        obtain ⟨a, rfl, ea⟩ := relW_ref r1
        obtain ⟨vs, q1, rr⟩ := mo.cell _ _ _ ea hc
        have c := cell_put (pure := w.lt 0) mo ea hc (rr.set r3 j) fun z y hy => by
          rcases List.mem_or_eq_of_mem_set hy with h | h
          · exact .inl h
          · rw [h]; exact .inr z
        exact set_list pins s σ H _ _ _ ov iv u Q I ro ri rv ⟨a, vs, k, j, rfl, relW_int r2, q1, by rw [← rr.length]; exact hj, q _ c.2 c.1⟩
      · cases e
    · cases e
  · cases e
theorem ds_sub {o i e : Expr} {fo fi fv : Em Wd} {pos pos' : Pos} (hv : PE X e (tE X.K W fv)) (ho : PE X o (tE X.K W fo)) (hi : PE X i (tE X.K W fi))
    (ha : ∀ v, assign (.Subscript o i pos') X.env v = (do
      let ov ← holding [v] (eval o X.env)
      let iv ← holding [v, ov] (eval i X.env)
      standAt pos'
      holding [v, ov, iv] (setItem ov iv v)
      release [v, ov, iv] []) := by intro _; rfl) (hs : swapsWithSole [.Subscript o i pos'] e pos.line X.env = pure false := by rfl) (hw : swappedStores [.Subscript o i pos'] e X.env = pure none := by rfl)
    (h1 : (assignEach [.Subscript o i pos'] X.env).map (·.2) = [assign (.Subscript o i pos') X.env] := by rfl) : PS X (.Assign [.Subscript o i pos'] e pos) (tS X.K W (sSub fo fi fv)) :=
  PSimp (ps_asg hv (pg_sub ho hi s_set ha) hs hw h1) fun D σ H ⟨ι, env, m, eo, mo, p⟩ => PostS.bind eo mo p fun ι1 H1 v x m1 st1 mo1 eo1 rv p1 => PostS.bind eo1 mo1 p1 fun ι2 H2 o' y m2 st2 mo2 eo2 ro p2 => PostS.bind eo2 mo2 p2 fun ι3 H3 i' z m3 st3 mo3 eo3 ri p3 => by
    cases q : setO o' i' v m3 with
    | none => rw [q] at p3; exact p3.elim
    | some m4 =>
      rw [q] at p3
      exact ⟨ι3, m3, o', i', v, m4, mo3, ro.step mo2.apart st3, ri, (rv.step mo1.apart st2).step mo2.apart st3, q, fun H' st mo4 => p3 ι3 H' σ st mo4 (eo3.step mo3.apart st)⟩
/-- o[i] by getItem -/
theorem pget_list : PGet X (fun o i H Q => ∃ p xs k v, o = .ref p ∧ i = .int k ∧ SqL X.K H p xs ∧ 0 ≤ k ∧ xs[k.toNat]? = some v ∧ Q v H) := by
  intro pins s σ H o i ov iv Q I ro ri h
  obtain ⟨p, xs, k, v, rfl, rfl, hq, h0, hx, q⟩ := h
  cases ro
  obtain ⟨t, rfl⟩ := ri
  obtain ⟨its, r, pl, hz⟩ := I.list hq
  obtain ⟨w, ew, rw'⟩ := r.get hx
  have hn := line63
  have := get_of hx
  exact wpAny_getItem_list pl.isList h0 (by omega) (by simpa using ew) ⟨v, H, I, rw', q⟩
def ixLO (x y : Wd) (m : Mm) : Option Wd := match x, y with
  | .ref n, .d (.int i) => match m.cells[n]? with
    | some (.lst xs) => if 0 ≤ i then xs[i.toNat]? else none
    | _ => none
  | _, _ => none
def sAugL (g : Op2) (fo fi fv : Em Wd) : Sm := fun env m => rs (fo env m) env fun o m => rs (fi env m) env fun i m => match ixLO o i m with
  | some x => rs (fv env m) env fun y m => rs (Rs.of (g x y m)) env fun z m => match setO o i z m with
    | some m => .go .nx env m
    | none => .stuck
  | none => .stuck
def iaddO : Op2 := fun a b m => match a, b with
    | .d (.int i), .d (.int j) => some (.d (.int (i + j)), m)
    | .d (.str x), .d (.str y) => if x.length + y.length ≤ LIM then some (.d (.str (x ++ y)), m) else none
    | _, _ => none
theorem p_iadd : PIp X .Add (rO X.K iaddO) := by
  refine fun pins s σ H x y v u Q I rx ry h => (OpRimp (OpR.or iop_add iop_add_str) fun x y H Q ⟨ι, m, a, b, mo, ra, rb, p⟩ => ?_) pins s σ H x y v u Q I rx ry h
  unfold iaddO at p
  split at p
  · exact .inl ⟨_, _, relW_int ra, relW_int rb, post_ok p mo (.d (.int _))⟩
  · split at p
    · exact .inr ⟨_, _, relW_str ra, relW_str rb, by rw [← LIM_eq]; assumption, post_ok p mo (.d (.str _))⟩
    · exact p.elim
  · exact p.elim
theorem ip_of {op : Operator} {g : Op2} (h : OpR X (inplaceOp op) (rO X.K g)) : PIp X op (rO X.K g) := h
theorem a_add : PIp X .Add (rO X.K iaddO) := p_iadd
theorem a_sub : PIp X .Sub (rO X.K subO) := ip_of (intO_ok0 iop_sub fun _ _ _ => .int _)
theorem a_shr : PIp X .RShift (rO X.K shrO) := ip_of (intO_ok iop_shr (fun _ _ h => of_decide_eq_true h) fun _ _ _ => .int _)
theorem ds_augL {o i e : Expr} {op : Operator} {g : Op2} {fo fi fv : Em Wd} {pos pos' : Pos} (hp : PIp X op (rO X.K g)) (ho : PE X o (tE X.K W fo)) (hi : PE X i (tE X.K W fi)) (hv : PE X e (tE X.K W fv))
    (ha : ∀ ov iv new, augStore i ov iv new = (do holding [new, ov, iv] (setItem ov iv new); release [new, ov, iv] []; pure .next) := by intros; rfl) : PS X (.AugAssign (.Subscript o i pos') op e pos) (tS X.K W (sAugL g fo fi fv)) :=
  PSimp (ps_augS ho hi pget_list hv hp s_set ha) fun D σ H ⟨ι, env, m, eo, mo, p⟩ => PostS.bind eo mo p fun ι1 H1 o' x m1 st1 mo1 eo1 ro p1 => PostS.bind eo1 mo1 p1 fun ι2 H2 i' y m2 st2 mo2 eo2 ri p2 => by
    cases q : ixLO o' i' m2 with
    | none => rw [q] at p2; exact p2.elim
    | some w =>
      rw [q] at p2
      have ro2 := ro.step mo1.apart st2
      unfold ixLO at q
      split at q
      · rename_i n k
        split at q
        · rename_i xs hc
          split at q
          · rename_i h0
            obtain ⟨a, rfl, ea⟩ := relW_ref ro2
            obtain ⟨vs, q1, rr⟩ := mo2.cell _ _ _ ea hc
            obtain ⟨v, q2, rw'⟩ := rr.get q
            refine ⟨a, vs, k, v, rfl, relW_int ri, SqL.of q1, h0, q2, ?_⟩
            refine PostS.bind eo2 mo2 p2 fun ι3 H3 y' y m3 st3 mo3 eo3 ry p3 => ?_
            cases q3 : g w y' m3 with
            | none => rw [q3] at p3; exact p3.elim
            | some zm =>
              obtain ⟨z, m4⟩ := zm
              rw [q3] at p3
              simp only [Rs.of_some, rs_ok] at p3
              refine ⟨ι3, m3, w, y', mo3, rw'.step mo2.apart st3, ry, ?_⟩
              rw [q3]
              intro ι4 H4 u st4 mo4 rz
              cases q4 : setO (.ref n) (.d (.int k)) z m4 with
              | none => rw [q4] at p3; exact p3.elim
              | some m5 =>
                rw [q4] at p3
                exact ⟨ι4, m4, _, _, z, m5, mo4, (ro2.step mo2.apart st3).step mo3.apart st4, (ri.step mo2.apart st3).step mo3.apart st4, rz, q4, fun H' st mo5 => p3 ι4 H' σ (st4.trans st) mo5 ((eo3.step mo3.apart st4).step mo4.apart st)⟩
          · cases q
        · cases q
      · cases q
theorem ds_aug {i : Nat} {x : Str} {e : Expr} {op : Operator} {g : Op2} {f : Em Wd} {pos pos' : Pos} (hp : PIp X op (rO X.K g)) (hN : X.N.Nodup) (hi : X.N[i]? = some x) (hx : Loc X.env.scope x) (he : PE X e (tE X.K W f)) (hf : X.fn x = true ∨ X.env.scope.names.lookup x = some .local := by first | exact .inl rfl | exact .inr rfl | assumption) :
    PS X (.AugAssign (.Name x pos') op e pos) (tS X.K W (sAug i g f)) :=
  PSimp (ps_aug hN hi hx he hp hf) fun D σ H ⟨ι, env, m, eo, mo, p⟩ => by
    unfold sAug at p
    cases q : env[i]? with
    | none => rw [q] at p; exact p.elim
    | some o =>
      cases o with
      | none => rw [q] at p; exact p.elim
      | some w =>
        rw [q] at p
        obtain ⟨v, q1, rw'⟩ := eo.2 i w q
        refine ⟨v, q1, PostS.bind eo mo p fun ι1 H1 y' y m1 st1 mo1 eo1 ry p1 => ⟨ι1, m1, w, y', mo1, rw'.step mo.apart st1, ry, ?_⟩⟩
        cases q3 : g w y' m1 with
        | none => rw [q3] at p1; exact p1.elim
        | some zm =>
          obtain ⟨z, m4⟩ := zm
          rw [q3] at p1
          simp only [Rs.of_some, rs_ok] at p1
          exact fun ι4 H4 u st4 mo4 rz => p1 ι4 H4 _ st4 mo4 ((eo1.step mo1.apart st4).set rz)
theorem sets_ok : ∀ {is : List Nat} {ws : List Wd} {vs : List V} {env env' : Env} {σ : L2.St}, EnvOk K ι H env σ → RelWs K ι H ws vs → setsE is ws env = some env' → EnvOk K ι H env' ((is.zip vs).foldl (fun σ p => σ.set p.1 (some p.2)) σ) ∧ is.length = vs.length
  | [], [], _, _, _, _, eo, .nil, e => by cases e; exact ⟨eo, rfl⟩
  | i :: is, w :: ws, _, _, _, _, eo, .cons r rs, e => by
    obtain ⟨h1, h2⟩ := sets_ok (is := is) (eo.set r) rs e
    exact ⟨h1, congrArg (· + 1) h2⟩
  | [], _ :: _, _, _, _, _, _, _, e => by cases e
  | _ :: _, [], _, _, _, _, _, _, e => by cases e
theorem ds_par {i j : Nat} {st : Stmt} {f : Em (List Wd)} (h : PS X st (tPar i j (tA X.K W f))) : PS X st (tS X.K W (sPar [i, j] f)) :=
  PSimp h fun D σ H ⟨ι, env, m, eo, mo, p⟩ => PostS.bind eo mo p fun ι1 H1 ws vs m1 st1 mo1 eo1 ra p1 => by
    cases q : setsE [i, j] ws env with
    | none => rw [q] at p1; exact p1.elim
    | some e1 =>
      rw [q] at p1
      obtain ⟨h1, h2⟩ := sets_ok eo1 ra q
      match vs, h2 with
      | [v, u], _ => exact ⟨v, u, rfl, p1 ι1 H1 _ .refl mo1 h1⟩
theorem ds_par3 {i j l : Nat} {st : Stmt} {f : Em (List Wd)} (h : PS X st (tPar3 i j l (tA X.K W f))) : PS X st (tS X.K W (sPar [i, j, l] f)) :=
  PSimp h fun D σ H ⟨ι, env, m, eo, mo, p⟩ => PostS.bind eo mo p fun ι1 H1 ws vs m1 st1 mo1 eo1 ra p1 => by
    cases q : setsE [i, j, l] ws env with
    | none => rw [q] at p1; exact p1.elim
    | some e1 =>
      rw [q] at p1
      obtain ⟨h1, h2⟩ := sets_ok eo1 ra q
      match vs, h2 with
      | [v, u, w], _ => exact ⟨v, u, w, rfl, p1 ι1 H1 _ .refl mo1 h1⟩
/-! ### sources -/
theorem src_list {n : Nat} {a : Addr} {xs : List Wd} (e : ι0[n]? = some a) : Src K (Itl K a) xs [(n, .lst xs)] ι0 H0 := by
  have look : ∀ {ι m H}, Stp ι0 H0 ι H → MemOk K ι m H → gdOk [(n, Cell.lst xs)] m = true → ∃ vs, H a = some (.lst vs) ∧ RelWs K ι H xs vs := fun st mo hg =>
    mo.cell n a _ (pre_get st.pre e) (gdOk_iff.mp hg (n, .lst xs) (List.mem_singleton.mpr rfl))
  refine ⟨fun i ι m H hi st mo hg => ?_, fun i ι m H x H' w st mo hg hy hw => ?_, fun i ι m H hi st mo hg => ?_⟩
  · obtain ⟨vs, q, r⟩ := look st mo hg
    have : i < vs.length := by rw [← r.length]; exact hi
    exact ⟨vs, vs[i], SqL.of q, List.getElem?_eq_getElem this⟩
  · obtain ⟨vs, q, r⟩ := look st mo hg
    obtain ⟨rfl, h⟩ := hy
    obtain ⟨v, q1, q2⟩ := r.get hw
    have : x = v := by have := h vs (SqL.of q); rw [q1] at this; cases this; rfl
    subst this
    exact ⟨.refl, mo, q2⟩
  · obtain ⟨vs, q, r⟩ := look st mo hg
    exact ⟨vs, SqL.of q, by rw [← r.length]; exact hi⟩
theorem src_tup {a : Addr} {xs : List Wd} {vs : List V} (ap : Apart ι0 H0) (h : SqT K H0 a vs) (r : RelWs K ι0 H0 xs vs) : Src K (Itt K a) xs [] ι0 H0 := by
  refine ⟨fun i ι m H hi st mo hg => ?_, fun i ι m H x H' w st mo hg hy hw => ?_, fun i ι m H hi st mo hg => ?_⟩
  · have : i < vs.length := by rw [← r.length]; exact hi
    exact ⟨vs, vs[i], sqT_step ap st h, List.getElem?_eq_getElem this⟩
  · obtain ⟨rfl, h2⟩ := hy
    obtain ⟨v, q1, q2⟩ := (r.step ap st).get hw
    have : x = v := by have := h2 vs (sqT_step ap st h); rw [q1] at this; cases this; rfl
    subst this
    exact ⟨.refl, mo, q2⟩
  · exact ⟨vs, sqT_step ap st h, by rw [← r.length]; exact hi⟩
theorem src_rol {a : Addr} {xs : List Wd} {vs : List V} (ap : Apart ι0 H0) (h : Rol K H0 a vs) (r : RelWs K ι0 H0 xs vs) : Src K (Itl K a) xs [] ι0 H0 := by
  refine ⟨fun i ι m H hi st mo hg => ?_, fun i ι m H x H' w st mo hg hy hw => ?_, fun i ι m H hi st mo hg => ?_⟩
  · have : i < vs.length := by rw [← r.length]; exact hi
    exact ⟨vs, vs[i], (rol_step ap st h).sqL, List.getElem?_eq_getElem this⟩
  · obtain ⟨rfl, h2⟩ := hy
    obtain ⟨v, q1, q2⟩ := (r.step ap st).get hw
    have : x = v := by have := h2 vs (rol_step ap st h).sqL; rw [q1] at this; cases this; rfl
    subst this
    exact ⟨.refl, mo, q2⟩
  · exact ⟨vs, (rol_step ap st h).sqL, by rw [← r.length]; exact hi⟩
theorem src_str {x : Str} : Src K (Its x) (x.cps.toList.map fun c => .d (.str ⟨#[c]⟩)) [] ι0 H0 := by
  refine ⟨fun i ι m H hi st mo hg => ?_, fun i ι m H v H' w st mo hg hy hw => ?_, fun i ι m H hi st mo hg => ?_⟩
  · rw [List.length_map, Array.length_toList] at hi; exact hi
  · obtain ⟨rfl, c, hc, rfl⟩ := hy
    rw [List.getElem?_map, Array.getElem?_toList, hc] at hw
    cases hw
    exact ⟨.refl, mo, .d (.str _)⟩
  · rw [List.length_map, Array.length_toList] at hi; exact hi
theorem src_range {lo : Int} {n : Nat} : Src K (Itr lo n) (intsFrom lo n) [] ι0 H0 := by
  refine ⟨fun i ι m H hi st mo hg => ?_, fun i ι m H v H' w st mo hg hy hw => ?_, fun i ι m H hi st mo hg => ?_⟩
  · rw [intsFrom, List.length_map, List.length_range] at hi; exact hi
  · obtain ⟨rfl, rfl⟩ := hy
    rw [intsFrom, List.getElem?_map] at hw
    obtain ⟨k, h1, h2⟩ := Option.map_eq_some_iff.mp hw
    rw [List.getElem?_range (by have := get_of h1; rwa [List.length_range] at this)] at h1
    cases h1
    subst h2
    exact ⟨.refl, mo, .d (.int _)⟩
  · rw [intsFrom, List.length_map, List.length_range] at hi; exact hi
theorem di_val {tg e : Expr} {f : Em Wd} (h : PE X e (tE X.K W f)) : PI X tg e (tI X.K W (iVal f)) := by
  refine PIimp (PIor (pi_list h) (PIor (pi_tup h) (pi_str h))) fun σ H R ⟨ι, env, m, eo, mo, p⟩ => ?_
  unfold iVal at p
  -- the expression's own end
  have go : ∀ {β : Prop} (P : V → Hp → Prop), (∀ w m1, f env m = .ok w m1 → ∀ ι1 H1 v, Stp ι H ι1 H1 → MemOk X.K ι1 m1 H1 → RelW X.K ι1 H1 w v → P v H1) → (∀ x m1, f env m = .exc x m1 → ∀ ι1 H1 cls d, Stp ι H ι1 H1 → MemOk X.K ι1 m1 H1 → ExOk X.K ι1 H1 x cls d → W cls d σ H1) → (f env m = .stuck → False) → tE X.K W f σ H P := fun {β} P h1 h2 h3 => by
    refine ⟨ι, env, m, eo, mo, ?_⟩
    cases q : f env m with
    | ok w m1 => exact fun ι1 H1 v st mo1 r => h1 w m1 q ι1 H1 v st mo1 r
    | exc x m1 => exact fun ι1 H1 c d st mo1 xo => h2 x m1 q ι1 H1 c d st mo1 xo
    | stuck => exact h3 q
  cases q : f env m with
  | stuck => rw [q] at p; exact p.elim
  | exc x m1 =>
    rw [q] at p
    exact .inl (go (β := True) _ (fun w m2 e => by rw [q] at e; cases e) (fun x' m2 e => by rw [q] at e; cases e; exact p) (fun e => by rw [q] at e; cases e))
  | ok w m1 =>
    rw [q] at p
    have gg : ∀ P : V → Hp → Prop, (∀ ι1 H1 v, Stp ι H ι1 H1 → MemOk X.K ι1 m1 H1 → RelW X.K ι1 H1 w v → P v H1) → tE X.K W f σ H P := fun P hP =>
      go (β := True) P (fun w' m2 e => by rw [q] at e; cases e; exact hP) (fun x' m2 e => by rw [q] at e; cases e) (fun e => by rw [q] at e; cases e)
    simp only [Rs.bind_ok] at p
    split at p
    · rename_i xs gd m2 hh
      split at hh
      · rename_i ds
        cases hh
        refine .inr (.inl (gg _ fun ι1 H1 v st mo1 r => ?_))
        obtain ⟨a, vs, rfl, h1, rv⟩ := tupOf_ok (w := .d (.tuple ds)) rfl r
        exact ⟨a, rfl, ⟨vs, h1⟩, p ι1 H1 _ st mo1 (src_tup mo1.apart h1 rv)⟩
      · rename_i ws
        cases hh
        refine .inr (.inl (gg _ fun ι1 H1 v st mo1 r => ?_))
        obtain ⟨a, vs, rfl, h1, rv⟩ := tupOf_ok (w := .tup xs) rfl r
        exact ⟨a, rfl, ⟨vs, h1⟩, p ι1 H1 _ st mo1 (src_tup mo1.apart h1 rv)⟩
      · rename_i ws
        cases hh
        refine .inl (gg _ fun ι1 H1 v st mo1 r => ?_)
        cases r with
        | rol h1 rv => exact ⟨_, rfl, ⟨_, h1.sqL⟩, p ι1 H1 _ st mo1 (src_rol mo1.apart h1 rv)⟩
      · rename_i n
        split at hh
        · rename_i ys hc
          cases hh
          refine .inl (gg _ fun ι1 H1 v st mo1 r => ?_)
          obtain ⟨a, rfl, e⟩ := relW_ref r
          obtain ⟨vs, q1, rv⟩ := mo1.cell _ _ _ e hc
          exact ⟨a, rfl, ⟨vs, SqL.of q1⟩, p ι1 H1 _ st mo1 (src_list e)⟩
        · cases hh
      · rename_i x
        cases hh
        refine .inr (.inr (gg _ fun ι1 H1 v st mo1 r => ?_))
        exact ⟨x, relW_str r, p ι1 H1 _ st mo1 src_str⟩
      · cases hh
    · rename_i x m2 hh
      split at hh <;> first | (cases hh; done) | (split at hh <;> cases hh)
    · exact p.elim
theorem di_ran1 {tg a : Expr} {f : Em (List Wd)} {p pos : Pos} (hg : Gl X "range") (hm : X.mg "range" = none) (ha : PA X [a] (tA X.K W f)) (hs : starEach [a] X.env = [(false, eval a X.env)] := by rfl) : PI X tg (.Call (.Name "range" p) [a] [] pos) (tI X.K W (iRan1 f)) := by
  refine PIimp (pi_range1 hg hm ha hs) fun σ H R ⟨ι, env, m, eo, mo, p⟩ => ?_
  unfold iRan1 at p
  refine ⟨ι, env, m, eo, mo, ?_⟩
  cases q : f env m with
  | stuck => rw [q] at p; exact p.elim
  | exc x m1 => rw [q] at p; exact p
  | ok ws m1 =>
    rw [q] at p
    simp only [Rs.bind_ok] at p
    split at p
    · rename_i xs gd m2 hh
      split at hh
      · rename_i j
        split at hh
        · rename_i hj
          cases hh
          intro ι1 H1 vs st mo1 r
          obtain ⟨v, rfl, rv⟩ := vals_one r
          have := of_decide_eq_true hj
          exact ⟨j, by rw [relW_int rv], this.1, this.2, p ι1 H1 _ st mo1 src_range⟩
        · cases hh
      · cases hh
    · rename_i x m2 hh
      split at hh <;> first | (cases hh; done) | (split at hh <;> cases hh)
    · exact p.elim
theorem di_ran2 {tg a b : Expr} {f : Em (List Wd)} {p pos : Pos} (hg : Gl X "range") (hm : X.mg "range" = none) (ha : PA X [a, b] (tA X.K W f)) (hs : starEach [a, b] X.env = [(false, eval a X.env), (false, eval b X.env)] := by rfl) (hs2 : starEach [b] X.env = [(false, eval b X.env)] := by rfl) : PI X tg (.Call (.Name "range" p) [a, b] [] pos) (tI X.K W (iRan2 f)) := by
  refine PIimp (pi_range2 hg hm ha hs hs2) fun σ H R ⟨ι, env, m, eo, mo, p⟩ => ?_
  unfold iRan2 at p
  refine ⟨ι, env, m, eo, mo, ?_⟩
  cases q : f env m with
  | stuck => rw [q] at p; exact p.elim
  | exc x m1 => rw [q] at p; exact p
  | ok ws m1 =>
    rw [q] at p
    simp only [Rs.bind_ok] at p
    split at p
    · rename_i xs gd m2 hh
      split at hh
      · rename_i i j
        split at hh
        · rename_i hj
          cases hh
          intro ι1 H1 vs st mo1 r
          cases r with
          | cons ra rr =>
            obtain ⟨v, rfl, rv⟩ := vals_one rr
            rw [Bool.and_eq_true] at hj
            have h1 := of_decide_eq_true hj.1
            have h2 := of_decide_eq_true hj.2
            exact ⟨i, j, by rw [relW_int rv, relW_int ra], ⟨h1.1, h1.2, h2.1, h2.2⟩, p ι1 H1 _ st mo1 src_range⟩
        · cases hh
      · cases hh
    · rename_i x m2 hh
      split at hh <;> first | (cases hh; done) | (split at hh <;> cases hh)
    · exact p.elim
end
end DL
set_option Elab.async false
set_option linter.all false
set_option maxRecDepth 100000
set_option maxHeartbeats 2000000
namespace DL
open PySem PySem.Spec PyProof.Rows L2
/-! ### sorted -/
section
variable {prog : Program} {w : World} {A : Around} {E : Value → Shared → Prop} {s : Shared}
theorem collect_seqT {l : Addr} {T : String} {o : Obj} {vs : List Value} {n : Nat} {Q : List Value → Shared → Prop} (hT : T = "list" ∨ T = "tuple") (ho : s.heap.get? l = some o) (hc : o.cls = .type T) (hd : o.data = .seq vs.toArray n)
    (h : Q vs { s with heap := (s.heap.push (seqObj "list" #[] 0)).update s.heap.objs.size (Obj.mapSeq (· ++ vs.toArray)) }) (hsz : vs.length ≤ sizeLine) :
    wpAny (model prog w) A (collect (.ref l)) Q E s := by
  unfold collect
  refine wpAny_bind (wpAny_runValue (codeAny_builtin entry_proto_collect' ?_))
  show wpAny _ _ (do again (.builtin "list.__iadd__" ⟨[← newList [], .ref l], []⟩)) _ _ s
  refine wpAny_bind (wpAny_newList (wpAny_pure ⟨Code.quiet_builtin _ (by decide +kernel), codeAny_builtin entry_list_iadd' ?_⟩))
  show wpAny _ _ (Builtin.List.listExtendWith (.ref s.heap.objs.size) (.ref l) (.ref s.heap.objs.size)) _ _ { s with heap := s.heap.push (seqObj "list" #[] 0) }
  unfold Builtin.List.listExtendWith
  have ho' : (s.heap.push (seqObj "list" #[] 0)).get? l = some o := Heap.get?_push_of_some _ ho
  refine wpAny_bind (wpAny_typeOf (T := T) ⟨o, ho', hc⟩ ?_)
  rw [if_pos (by rcases hT with e | e <;> (subst e; simp))]
  refine wpAny_bind (listItems_at ho' hd ?_)
  refine wpAny_bind (listItems_at (xs := #[]) (n := 0) (Heap.get?_push_size _ rfl) rfl ?_)
  rw [if_neg (by simp)]
  refine wpAny_bind (listUpdate_at (xs := #[]) (n := 0) (Heap.get?_push_size _ rfl) rfl ?_ (Nat.zero_le _)
    (by show (#[] ++ vs.toArray).size ≤ sizeLine + 1; simp only [Array.size_append, List.size_toArray, List.length_nil]; omega))
  refine wpAny_pure ?_
  show wpAny (model prog w) A (do
      let o ← load s.heap.objs.size
      match o.data with
      | .seq ys _ => pure ys.toList
      | _ => unsupported "internal:collect") Q E { s with heap := (s.heap.push (seqObj "list" #[] 0)).update s.heap.objs.size (Obj.mapSeq (· ++ vs.toArray)) }
  refine wpAny_bind (wpAny_load (get?_update_seq (Heap.get?_push_size _ rfl) _) ?_)
  show wpAny _ _ (pure ((#[] : Array Value) ++ vs.toArray).toList) Q E _
  rw [show ((#[] : Array Value) ++ vs.toArray).toList = vs by simp]
  exact wpAny_pure h
/-- sorted of a list or a tuple, keys of one kind -/
theorem sortedKT {κ : PyProof.Rows.KeyKind} (hO : κ.OneLt) {l : Addr} {T : String} {o : Obj} {vs : List Value} {n : Nat} {Q : Value → Shared → Prop} (hT : T = "list" ∨ T = "tuple") (ho : s.heap.get? l = some o) (hc : o.cls = .type T) (hd : o.data = .seq vs.toArray n)
    (h0 : KeysOf κ (pairsOf vs)) (hkk : ∀ v₁ v₂ rest, vs = v₁ :: v₂ :: rest → keyKind' (v₁ :: v₂ :: rest).toArray = pure oneType') (hL : vs.length ≤ sizeLine)
    (h : ∀ st' : SortSt, (arrOf st').Perm (pairsOf vs) → SortedToK κ (arrOf st') (pairsOf vs).size → Q (.ref (s.heap.objs.size + 1)) { s with heap := sortedAll s.heap vs ((arrOf st').map (·.2)) }) :
    wpAny (model prog w) A (call (.builtin "sorted") [.ref l]) Q E s := by
  refine Calls.call_function_entry kind_sorted plain_sorted entry_sorted (args_sorted1 _) ?_
  unfold Builtin.«sorted»
  refine wpAny_bind (m := checkCount "sorted" 1 1 _) (wpAny_pure ?_)
  refine wpAny_bind (collect_seqT hT ho hc hd ?_ hL)
  refine wpAny_bind (wpAny_newList ?_)
  have hsz : ((s.heap.push (seqObj "list" #[] 0)).update s.heap.objs.size (Obj.mapSeq (· ++ vs.toArray))).objs.size = s.heap.objs.size + 1 := by
    rw [Heap.size_update, size_push']
  have hoL : (((s.heap.push (seqObj "list" #[] 0)).update s.heap.objs.size (Obj.mapSeq (· ++ vs.toArray))).push (seqObj "list" vs.toArray 0)).get? (s.heap.objs.size + 1) = some (seqObj "list" vs.toArray 0) := by
    rw [← hsz]; exact Heap.get?_push_size _ rfl
  show wpAny _ _ _ _ _ { s with heap := ((s.heap.push (seqObj "list" #[] 0)).update s.heap.objs.size (Obj.mapSeq (· ++ vs.toArray))).push (seqObj "list" vs.toArray 0) }
  rw [hsz]
  refine wpAny_bind (wpAny_holding (wpAny_call_entry slot_list_sort ⟨_, hoL, rfl⟩ entry_list_sort (list_sort_treeKAny hO hoL h0 hkk hL fun st' a1 a2 => ⟨_, rfl, ?_⟩) (args_list_sort _)))
  exact wpAny_pure ⟨_, rfl, h st' a1 a2⟩
end
def leS (a b : Str) : Bool := decide (a.cps.toList ≤ b.cps.toList)
def leI (a b : Int) : Bool := decide (a ≤ b)
def strsW : List Wd → Option (List Str)
  | [] => some []
  | .d (.str b) :: r => (strsW r).map (b :: ·)
  | _ :: _ => none
def intsW : List Wd → Option (List Int)
  | [] => some []
  | .d (.int b) :: r => (intsW r).map (b :: ·)
  | _ :: _ => none
def sortO : OpN := fun ws m => match ws with
  | [w] => match seqOf m w with
    | some xs => match strsW xs with
      | some ss => some (.ref m.cells.length, m.push (.lst ((ss.mergeSort leS).map fun x => .d (.str x))))
      | none => match intsW xs with
        | some ns => some (.ref m.cells.length, m.push (.lst ((ns.mergeSort leI).map fun x => .d (.int x))))
        | none => none
    | none => none
  | _ => none
theorem str_ext {a b : Str} (h : a.cps.toList = b.cps.toList) : a = b := by
  cases a; cases b; simp only [Str.mk.injEq]; exact Array.toList_inj.mp h
theorem leS_trans (a b c : Str) (h : leS a b = true) (h2 : leS b c = true) : leS a c = true := decide_eq_true (List.le_trans (of_decide_eq_true h) (of_decide_eq_true h2))
theorem leS_total (a b : Str) : (leS a b || leS b a) = true := by
  rw [Bool.or_eq_true]
  exact (List.le_total a.cps.toList b.cps.toList).imp decide_eq_true decide_eq_true
theorem sortedS_pair : ∀ {l : List Str}, sortedS l = true → l.Pairwise fun a b => leS a b = true
  | [], _ => .nil
  | x :: r, h => by
    have step : ∀ (r : List Str) (x : Str), risingS x r = true → (∀ y ∈ r, leS x y = true) ∧ r.Pairwise fun a b => leS a b = true := by
      intro r
      induction r with
      | nil =>
        intro x _
        exact ⟨fun _ h => (nomatch h), List.Pairwise.nil⟩
      | cons y r ih =>
        intro x h
        have h' : (!ltCps y.cps.toList x.cps.toList && risingS y r) = true := h
        rw [Bool.and_eq_true, PyProof.Rows.ltCps_eq] at h'
        have hxy : leS x y = true := by
          refine decide_eq_true (List.not_lt.mp ?_)
          have := h'.1
          simpa using this
        obtain ⟨a1, a2⟩ := ih y h'.2
        refine ⟨fun z hz => ?_, List.pairwise_cons.mpr ⟨a1, a2⟩⟩
        rcases List.mem_cons.mp hz with e | hz
        · rw [e]; exact hxy
        · exact leS_trans x y z hxy (a1 z hz)
    obtain ⟨a1, a2⟩ := step r x h
    exact List.pairwise_cons.mpr ⟨a1, a2⟩
theorem sortS_unique {xs ys : List Str} (hp : ys.Perm xs) (hs : sortedS ys = true) : ys = xs.mergeSort leS :=
  List.Perm.eq_of_pairwise (le := fun a b => leS a b = true) (fun a b _ _ h h' => str_ext (List.le_antisymm (of_decide_eq_true h) (of_decide_eq_true h'))) (sortedS_pair hs) (List.pairwise_mergeSort leS_trans leS_total xs) (hp.trans (List.mergeSort_perm xs leS).symm)
theorem leI_trans (a b c : Int) (h : leI a b = true) (h2 : leI b c = true) : leI a c = true := decide_eq_true (Int.le_trans (of_decide_eq_true h) (of_decide_eq_true h2))
theorem leI_total (a b : Int) : (leI a b || leI b a) = true := by
  rw [Bool.or_eq_true]
  exact (Int.le_total a b).imp decide_eq_true decide_eq_true
theorem sortI_unique {xs ys : List Int} (hp : ys.Perm xs) (hs : ys.Pairwise (· ≤ ·)) : ys = xs.mergeSort leI :=
  List.Perm.eq_of_pairwise (le := fun a b => leI a b = true) (fun a b _ _ h h' => Int.le_antisymm (of_decide_eq_true h) (of_decide_eq_true h')) (hs.imp fun h => decide_eq_true h)
    (List.pairwise_mergeSort leI_trans leI_total xs) (hp.trans (List.mergeSort_perm xs leI).symm)
section
variable {K : PySem.W.Frag} {W : L2.WX} {ι ι0 : List Addr} {H H0 : Hp} {env : Env} {σ : L2.St} {m : Mm} {X : Cx}
theorem seq_obj {pins : List (Addr × Obj)} {s : Shared} {a : Addr} {xs : List V} (I : L2.Inv X pins σ H s) (h : SqL X.K H a xs ∨ SqT X.K H a xs) :
    ∃ (T : String) (o : Obj) (its : List Value) (n : Nat), (T = "list" ∨ T = "tuple") ∧ s.heap.get? a = some o ∧ o.cls = .type T ∧ o.data = .seq its.toArray n ∧ Vals xs its ∧ xs.length ≤ sizeLine := by
  rcases h with h | h
  · obtain ⟨its, r, ⟨o, n, h1, h2, h3, h4⟩, hz⟩ := I.list h
    exact ⟨"list", o, its, n, .inl rfl, h1, h2, h4, r, hz⟩
  · obtain ⟨its, r, ⟨o, h1, h2, n, h4⟩, hz⟩ := I.tuple h
    exact ⟨"tuple", o, its, n, .inr rfl, h1, h2, h4, r, hz⟩
theorem c_sortS : CallR X (.builtin "sorted") (fun vs H Q => ∃ (a : Addr) (xs : List Str), vs = [V.ref a] ∧ (SqL X.K H a (xs.map V.str) ∨ SqT X.K H a (xs.map V.str)) ∧ ∀ p, H p = none → Q (.ref p) (upd H p (.lst ((xs.mergeSort leS).map V.str)))) := by
  intro pins s σ H vs us Q I r h
  obtain ⟨a, xs, rfl, hs, q⟩ := h
  rw [Vals.ref1 r]
  obtain ⟨T, o, its, n, hT, ho, hc, hd, rv, hz⟩ := seq_obj I hs
  have hz' : its.length ≤ sizeLine := by rw [← rv.length]; exact hz
  refine sortedKT strKind_oneLt hT ho hc hd rv.strs.keysOf (fun v₁ v₂ rest e => keyKind_strs (by rw [← e]; exact rv.strs)) hz' fun st' h1 h2 => ?_
  obtain ⟨ys, g1, g2, g3⟩ := sorted_out_str rv.strs h1 h2
  obtain ⟨ep, he'⟩ := PyProof.Rows.sortedAll_at s.heap its ((arrOf st').map (·.2))
  have e := sortS_unique g2 g3
  subst e
  have hlen : ((xs.mergeSort leS).map V.str).length ≤ sizeLine := by rw [List.length_map, g2.length_eq]; rw [List.length_map] at hz; exact hz
  exact ⟨.ref _, _, I.laid (o := .lst ((xs.mergeSort leS).map V.str)) (t' := s.toks) (fun _ _ => PyProof.Rows.sortedAll_old) (Nat.le_succ _) ⟨hlen, _, ep, vals_of_strs g1, he'⟩, rfl, q _ (I.hok.fresh (Nat.le_succ _))⟩
theorem c_sortI : CallR X (.builtin "sorted") (fun vs H Q => ∃ (a : Addr) (xs : List Int), vs = [V.ref a] ∧ (SqL X.K H a (xs.map V.int) ∨ SqT X.K H a (xs.map V.int)) ∧ ∀ p, H p = none → Q (.ref p) (upd H p (.lst ((xs.mergeSort leI).map V.int)))) := by
  intro pins s σ H vs us Q I r h
  obtain ⟨a, xs, rfl, hs, q⟩ := h
  rw [Vals.ref1 r]
  obtain ⟨T, o, its, n, hT, ho, hc, hd, rv, hz⟩ := seq_obj I hs
  have hz' : its.length ≤ sizeLine := by rw [← rv.length]; exact hz
  refine sortedKT intKind_oneLt hT ho hc hd rv.ints.keysOfInt (fun v₁ v₂ rest e => keyKind_ints (by rw [← e]; exact rv.ints)) hz' fun st' h1 h2 => ?_
  obtain ⟨ys, g1, g2, g3⟩ := sorted_out rv.ints h1 (sortedTo_of_int h2)
  obtain ⟨ep, he'⟩ := PyProof.Rows.sortedAll_at s.heap its ((arrOf st').map (·.2))
  have e := sortI_unique g2 g3
  subst e
  have hlen : ((xs.mergeSort leI).map V.int).length ≤ sizeLine := by rw [List.length_map, g2.length_eq]; rw [List.length_map] at hz; exact hz
  exact ⟨.ref _, _, I.laid (o := .lst ((xs.mergeSort leI).map V.int)) (t' := s.toks) (fun _ _ => PyProof.Rows.sortedAll_old) (Nat.le_succ _) ⟨hlen, _, ep, vals_of_ints g1, he'⟩, rfl, q _ (I.hok.fresh (Nat.le_succ _))⟩
theorem strs_ok : ∀ {ws : List Wd} {vs : List V} {bs : List Str}, RelWs K ι H ws vs → strsW ws = some bs → vs = bs.map V.str
  | [], _, _, .nil, h => by cases h; rfl
  | w :: r, _, _, .cons ra rr, h => by
    unfold strsW at h
    split at h
    · rename_i e
      cases e
    · rename_i b r' e
      cases e
      obtain ⟨bs, h1, h2⟩ := Option.map_eq_some_iff.mp h
      subst h2
      rw [relW_str ra, strs_ok rr h1]; rfl
    · cases h
theorem ints_ok : ∀ {ws : List Wd} {vs : List V} {bs : List Int}, RelWs K ι H ws vs → intsW ws = some bs → vs = bs.map V.int
  | [], _, _, .nil, h => by cases h; rfl
  | w :: r, _, _, .cons ra rr, h => by
    unfold intsW at h
    split at h
    · rename_i e
      cases e
    · rename_i b r' e
      cases e
      obtain ⟨bs, h1, h2⟩ := Option.map_eq_some_iff.mp h
      subst h2
      rw [relW_int ra, ints_ok rr h1]; rfl
    · cases h
theorem relStrs : ∀ (ss : List Str), RelWs K ι H (ss.map fun x => .d (.str x)) (ss.map V.str)
  | [] => .nil
  | x :: r => .cons (.d (.str x)) (relStrs r)
theorem relInts : ∀ (ss : List Int), RelWs K ι H (ss.map fun x => .d (.int x)) (ss.map V.int)
  | [] => .nil
  | x :: r => .cons (.d (.int x)) (relInts r)
theorem o_sorted : CallR X (.builtin "sorted") (rON X.K sortO) := by
  refine CallRimp (CallR.or c_sortS c_sortI) fun xs H Q ⟨ι, m, ws, mo, ra, p⟩ => ?_
  unfold sortO at p
  split at p
  · rename_i w
    split at p
    · rename_i ys e
      obtain ⟨v, rfl, r⟩ := vals_one ra
      obtain ⟨a1, vs, rfl, h, rv⟩ := seqOf_ok mo e r
      split at p
      · rename_i ss hs
        have := strs_ok rv hs
        subst this
        exact .inl ⟨a1, ss, rfl, h, fun q hq => let ⟨a, b⟩ := cell_new mo hq (relStrs (ss.mergeSort leS)); p _ _ _ (stp_new hq) a b⟩
      · split at p
        · rename_i ns hs
          have := ints_ok rv hs
          subst this
          exact .inr ⟨a1, ns, rfl, h, fun q hq => let ⟨a, b⟩ := cell_new mo hq (relInts (ns.mergeSort leI)); p _ _ _ (stp_new hq) a b⟩
        · exact p.elim
    · exact p.elim
  · exact p.elim
/-! ### defs and the law -/
theorem d_fn {P : Program} {w : World} {mg : Str → Option Value} {base : Heap} {x qual : Str} {params : Arguments} {body : List Stmt} {scope : Scope} {f : Addr} {fd : FuncData} {N ps : List Str} {k n j : Nat} {b : Sm} (F : FunD K x qual params body scope [] [] f fd) (S : FnScope N ps scope) (hN : N.length = n) (hj : ps.length = j)
    (hb : ∀ (cdv : Value) (A : Around) (outer : List PySem.Env) (s : Shared) (H : Hp) (E : XK), Room k (A.deeper (envOfC qual scope s.heap.objs.size f cdv)) → Takes (cxOf (L2.CX P w) P w K mg base N qual scope f cdv A outer s H E) (fun cls d _ H => E cls d H) →
      PassesOwn (model P w) (A.deeper (envOfC qual scope s.heap.objs.size f cdv)) (envOfC qual scope s.heap.objs.size f cdv) (cxOf (L2.CX P w) P w K mg base N qual scope f cdv A outer s H E).xe →
      PSs (cxOf (L2.CX P w) P w K mg base N qual scope f cdv A outer s H E) body (tS K (fun cls d _ H => E cls d H) b)) : FnOk P w K mg base (L2.CX P w) (k + 1) f fd ps (spD K j (runF n b)) :=
  F.ok S (fun vs H Q E h => by obtain ⟨_, _, _, hl, _⟩ := h; exact hl.trans hj.symm) fun cdv A outer s H vs Q E hr h =>
    ⟨_, hb cdv A outer s H E hr (takes_of rfl rfl rfl rfl) (passes_of rfl), fn_start hN h⟩
theorem rol_only {a : Addr} {xs : List V} (hO : Only H) (h : SqL K H a xs) : Rol K H a xs := by
  rcases h with (h | ⟨o, h⟩) | h
  · rcases hO a with z | ⟨o, ys, z⟩
    · rw [z] at h; cases h
    · rw [z] at h; cases h
  · exact .inl ⟨o, h⟩
  · exact .inr h
def scriptW (ns : List Int) : Wd := .rol (ns.map fun i => .d (.int i))
theorem law_end {a : Addr} {ns : List Int} {F : Fn} {m' : Mm} (hO : Only H) (h : SqL K H a (ns.map V.int)) (hF : F [scriptW ns] ⟨[], []⟩ = .ok (.d (.bool true)) m') : spD K 1 F [.ref a] H (fun v _ => v = .bl true) fun _ _ _ => False := by
  refine ⟨[], ⟨[], []⟩, [scriptW ns], rfl, ⟨rfl, .nil, fun n a c h1 => by simp at h1, (fun _ h => nomatch h), .nil, (fun _ h => nomatch h)⟩, .cons (.rol (rol_only hO h) (relInts ns)) .nil, ?_⟩
  rw [hF]
  exact fun ι' H' b st mo r => relW_bl r
end
end DL
set_option Elab.async false
set_option linter.all false
set_option maxRecDepth 100000
set_option maxHeartbeats 2000000
namespace DL
open PySem PySem.Spec PyProof.Rows L2
/-! ### a module's constants, as data -/
mutual
def datU (K : PySem.W.Frag) : PyData → Value → Bool
  | .none, u => (match u with | .none => true | _ => false)
  | .bool b, u => (match u with | .bool c => b == c | _ => false)
  | .int i, u => (match u with | .int j _ => decide (i = j) | _ => false)
  | .str x, u => (match u with | .str y _ => decide (x = y) | _ => false)
  | .tuple ds, u => (match u with
    | .ref a => (match K.lookup a with
      | some ⟨.type c, _, .seq its _, _⟩ => decide (c = "tuple") && decide (its.size ≤ sizeLine) && datUs K ds its.toList
      | _ => false)
    | _ => false)
  | _, _ => false
def datUs (K : PySem.W.Frag) : List PyData → List Value → Bool
  | [], us => us.isEmpty
  | d :: ds, us => (match us with | u :: r => datU K d u && datUs K ds r | [] => false)
end
mutual
theorem datU_ok {K : PySem.W.Frag} : ∀ {d : PyData} {u : Value}, datU K d u = true → ∃ v, RelV v u ∧ ∀ H, RelD K H d v
  | .none, u, h => by
    cases u <;> first | cases h; done | exact ⟨.non, rfl, fun _ => .non⟩
  | .bool b, u, h => by
    cases u with
    | bool c =>
      have e : b = c := eq_of_beq (show (b == c) = true from h)
      exact ⟨.bl b, by rw [e]; rfl, fun _ => .bl b⟩
    | _ => cases h
  | .int i, u, h => by
    cases u with
    | int j t => exact ⟨.int i, ⟨t, by rw [of_decide_eq_true (show decide (i = j) = true from h)]⟩, fun _ => .int i⟩
    | _ => cases h
  | .str x, u, h => by
    cases u with
    | str j t => exact ⟨.str x, ⟨t, by rw [of_decide_eq_true (show decide (x = j) = true from h)]⟩, fun _ => .str x⟩
    | _ => cases h
  | .tuple ds, u, h => by
    cases u with
    | ref a =>
      have h' : (match K.lookup a with
        | some ⟨.type c, _, .seq its _, _⟩ => decide (c = "tuple") && decide (its.size ≤ sizeLine) && datUs K ds its.toList
        | _ => false) = true := h
      cases q : K.lookup a with
      | none => rw [q] at h'; cases h'
      | some o =>
        obtain ⟨oc, od, dt, osl⟩ := o
        rw [q] at h'
        cases oc with
        | type c =>
          cases dt with
          | seq its n =>
            have h2 : (decide (c = "tuple") && decide (its.size ≤ sizeLine) && datUs K ds its.toList) = true := h'
            rw [Bool.and_eq_true, Bool.and_eq_true] at h2
            obtain ⟨vs, r, rd⟩ := datUs_ok h2.2
            have hc : c = "tuple" := of_decide_eq_true h2.1.1
            subst hc
            exact ⟨.ref a, rfl, fun H => .tup (.inr ⟨_, its, n, q, rfl, rfl, of_decide_eq_true h2.1.2, r⟩) (rd H)⟩
          | _ => cases h'
        | _ => cases dt <;> cases h'
    | _ => cases h
  | .list _, _, h => by cases h
  | .dict _, _, h => by cases h
theorem datUs_ok {K : PySem.W.Frag} : ∀ {ds : List PyData} {us : List Value}, datUs K ds us = true → ∃ vs, Vals vs us ∧ ∀ H, RelDs K H ds vs
  | [], us, h => by
    cases us with
    | nil => exact ⟨[], .nil, fun _ => .nil⟩
    | cons _ _ => cases h
  | d :: ds, us, h => by
    cases us with
    | nil => cases h
    | cons u r =>
      have h' : (datU K d u && datUs K ds r) = true := h
      rw [Bool.and_eq_true] at h'
      obtain ⟨v, r1, d1⟩ := datU_ok h'.1
      obtain ⟨vs, r2, d2⟩ := datUs_ok h'.2
      exact ⟨v :: vs, .cons r1 r2, fun H => .cons (d1 H) (d2 H)⟩
end
def conF (K : PySem.W.Frag) (p : Str × PyData) : Bool := match PySem.W.nsIn K mainGlobals p.1 with
  | some (some u) => datU K p.2 u
  | _ => false
/-- the module's name x stands for the data d -/
def Con (K : PySem.W.Frag) (mg : Str → Option Value) (x : Str) (d : PyData) : Prop := ∃ u v, mg x = some u ∧ RelV v u ∧ ∀ H, RelD K H d v
theorem conF_ok {K : PySem.W.Frag} {h : Heap} {mg : Str → Option Value} (X : K.In h) (G : h.Ns mainGlobals mg) {x : Str} {d : PyData} (c : conF K (x, d) = true) : Con K mg x d := by
  unfold conF at c
  cases e : PySem.W.nsIn K mainGlobals x with
  | none => rw [e] at c; cases c
  | some o =>
    cases o with
    | none => rw [e] at c; cases c
    | some u =>
      rw [e] at c
      obtain ⟨v, r, rd⟩ := datU_ok c
      exact ⟨u, v, PySem.W.mg_of X G e, r, rd⟩
theorem de_K {X : Cx} {W : L2.WX} {x : Str} {d : PyData} {pos : Pos} (hg : Gl X x) (h : Con X.K X.mg x d) (hd : (x == ("__debug__" : Str)) = false := by decide) : PE X (.Name x pos) (tE X.K W (eC (.d d))) := by
  obtain ⟨u, v, hm, r, rd⟩ := h
  exact de_G hg hm r (fun ι H => .d (rd H)) hd
/-! ### the head's hook: defs, facts, constants, one more look -/
abbrev AlQ : Type := He.AlD × Bool
structure SaysQ (fa : List He.Fa) (fn : List He.DefD) (cs : List (Str × PyData)) (ex : PySem.W.Frag → Bool) (K : PySem.W.Frag) : Prop where
  d : He.SaysD fa fn K
  c : cs.all (conF K) = true
  x : ex K = true
def obsQ (n : Nat) (fa : List He.Fa) (fn : List He.DefD) (cs : List (Str × PyData)) (ex : PySem.W.Frag → Bool) (g : Addr → Option Obj) : AlQ :=
  (He.obsDG n fa fn g, cs.all (conF (He.frG g (He.asD g n))) && ex (He.frG g (He.asD g n)))
def hookQ (n : Nat) (fa : List He.Fa) (fn : List He.DefD) (cs : List (Str × PyData)) (ex : PySem.W.Frag → Bool) : PySem.W.Hook where
  α := AlQ
  obs := fun s => obsQ n fa fn cs ex s.heap.get?
  val := fun _ => (He.valD fn, true)
  says := fun _ h => ∃ K : PySem.W.Frag, K.In h ∧ SaysQ fa fn cs ex K
  of := fun w s e => by
    have e1 : He.obsDG n fa fn s.heap.get? = He.valD fn := congrArg (·.1) e
    have e2 : (cs.all (conF (He.frG s.heap.get? (He.asD s.heap.get? n))) && ex (He.frG s.heap.get? (He.asD s.heap.get? n))) = true := congrArg (·.2) e
    rw [Bool.and_eq_true] at e2
    exact ⟨_, He.frG_in, e1, e2.1, e2.2⟩
  keeps := fun _ _ _ ⟨K, hK, c⟩ k => ⟨K, PySem.W.Frag.In.keeps hK k, c⟩
theorem obsQ_eq {n : Nat} {fa : List He.Fa} {fn : List He.DefD} {cs : List (Str × PyData)} {ex : PySem.W.Frag → Bool} {g : Addr → Option Obj} {s : Shared} (h : ∀ a, g a = s.heap.get? a) : obsQ n fa fn cs ex g = (hookQ n fa fn cs ex).obs s := by
  have e : g = s.heap.get? := funext h
  rw [e] <;> rfl
theorem SaysQ.con {fa : List He.Fa} {fn : List He.DefD} {cs : List (Str × PyData)} {ex : PySem.W.Frag → Bool} {K : PySem.W.Frag} {h : Heap} {mg : Str → Option Value} (X : K.In h) (G : h.Ns mainGlobals mg) (c : SaysQ fa fn cs ex K) (i : Nat) {x : Str} {d : PyData} (e : cs[i]? = some (x, d) := by rfl) : Con K mg x d :=
  conF_ok X G (List.all_eq_true.mp c.c _ (List.mem_of_getElem? e))
/-! ### a dict by a comprehension -/
def keyOf : PyData → Option Key
  | .int i => some (.inl i)
  | .str x => some (.inr x)
  | _ => none
theorem keyOf_ok {d : PyData} {k : Key} (h : keyOf d = some k) : d = keyD k := by
  unfold keyOf at h
  split at h <;> first | (cases h; rfl) | cases h
theorem keyOf_D (k : Key) : keyOf (keyD k) = some k := by cases k <;> rfl
theorem keyD_inj {a b : Key} (h : keyD a = keyD b) : a = b := by
  have := congrArg keyOf h
  rw [keyOf_D, keyOf_D] at this
  exact Option.some.inj this
/-- d[k] = w -/
def putW (d : List (PyData × Wd)) (k : Key) (w : Wd) : List (PyData × Wd) :=
  if (d.any fun p => decide (keyOf p.1 = some k)) = true then d.map (fun p => if keyOf p.1 = some k then (p.1, w) else p) else d ++ [(keyD k, w)]
def keyW : Wd → Option Key
  | .d x => keyOf x
  | _ => none
noncomputable def dcL (t : Tg) (c : Em Bool) (fk fv : Em Wd) (gd : Gd) (env : Env) : List Wd → List (PyData × Wd) → Mm → Rs (List (PyData × Wd))
  | [], acc, m => if gdOk gd m = true then .ok acc m else .stuck
  | w :: ws, acc, m => if gdOk gd m = true then (match t.put w env with
    | none => .stuck
    | some e => (c e m).bind fun b m => if b = true then (fk e m).bind fun k m => (fv e m).bind fun x m => (match keyW k with
      | some k => if acc.length < LIM then dcL t c fk fv gd env ws (putW acc k x) m else .stuck
      | none => .stuck) else dcL t c fk fv gd env ws acc m) else .stuck
noncomputable def eDc (s : Em (List Wd × Gd)) (t : Tg) (c : Em Bool) (fk fv : Em Wd) (own : List Nat) : Em Wd := fun env m => (s env m).bind fun p m => match dcL t c fk fv p.2 (forget own env) p.1 [] m with
  | .ok xs m => .ok (.ref m.cells.length) (m.push (.dct xs))
  | _ => .stuck
section
variable {K : PySem.W.Frag} {W : L2.WX} {ι ι' ι0 : List Addr} {H H' H0 : Hp} {env : Env} {σ : L2.St} {m : Mm} {X : Cx}
theorem KvOk.length : ∀ {d : List (PyData × Wd)} {v : List (Key × V)}, KvOk K ι H d v → d.length = v.length
  | [], [], _ => rfl
  | (_, _) :: _, (_, _) :: _, ⟨_, _, h3⟩ => congrArg (· + 1) (KvOk.length h3)
  | [], _ :: _, h => h.elim
  | _ :: _, [], h => h.elim
theorem kv_any {k : Key} : ∀ {d : List (PyData × Wd)} {ks : List (Key × V)}, KvOk K ι H d ks → (d.any fun p => decide (keyOf p.1 = some k)) = ks.any fun kv => decide (kv.1 = k)
  | [], [], _ => rfl
  | (x, _) :: _, (k', _) :: _, ⟨h1, _, h3⟩ => by
    rw [List.any_cons, List.any_cons, kv_any h3]
    congr 1
    show decide (keyOf x = some k) = decide (k' = k)
    rw [h1, keyOf_D]
    simp
  | [], _ :: _, h => h.elim
  | _ :: _, [], h => h.elim
theorem kv_map {k : Key} {w : Wd} {v : V} (r : RelW K ι H w v) : ∀ {d : List (PyData × Wd)} {ks : List (Key × V)}, KvOk K ι H d ks → KvOk K ι H (d.map (fun p => if keyOf p.1 = some k then (p.1, w) else p)) (ks.map fun kv => if kv.1 = k then (kv.1, v) else kv)
  | [], [], _ => True.intro
  | (x, u) :: d, (k', v') :: ks, ⟨h1, h2, h3⟩ => by
    rw [List.map_cons, List.map_cons]
    by_cases e : k' = k
    · rw [if_pos (show keyOf x = some k by rw [h1, keyOf_D, e]), if_pos e]
      exact ⟨h1, r, kv_map r h3⟩
    · rw [if_neg (show ¬ keyOf x = some k by rw [h1, keyOf_D]; exact fun z => e (Option.some.inj z)), if_neg e]
      exact ⟨h1, h2, kv_map r h3⟩
  | [], _ :: _, h => h.elim
  | _ :: _, [], h => h.elim
theorem kv_app {k : Key} {w : Wd} {v : V} (r : RelW K ι H w v) : ∀ {d : List (PyData × Wd)} {ks : List (Key × V)}, KvOk K ι H d ks → KvOk K ι H (d ++ [(keyD k, w)]) (ks ++ [(k, v)])
  | [], [], _ => ⟨rfl, r, True.intro⟩
  | (_, _) :: _, (_, _) :: _, ⟨h1, h2, h3⟩ => ⟨h1, h2, kv_app r h3⟩
  | [], _ :: _, h => h.elim
  | _ :: _, [], h => h.elim
theorem kv_put {k : Key} {w : Wd} {v : V} {d : List (PyData × Wd)} {ks : List (Key × V)} (r : RelW K ι H w v) (h : KvOk K ι H d ks) : KvOk K ι H (putW d k w) (putK ks k v) := by
  unfold putW putK
  rw [kv_any h]
  split
  · exact kv_map r h
  · exact kv_app r h
theorem kept_updD {D : Addr} {xs ys : List (Key × V)} (hD : H D = some (.dK xs)) : Kept K ι H ι (upd H D (.dK ys)) where
  pre := List.prefix_refl _
  tup := fun a zs h => by
    rcases h with h | h
    · have n : a ≠ D := fun e => by
        subst e
        rcases h with h | ⟨o, h⟩
        · rw [hD] at h; cases h
        · rw [hD] at h; cases h
      rcases h with h | ⟨o, h⟩
      · exact .inl (.inl (by rw [upd_ne n]; exact h))
      · exact .inl (.inr ⟨o, by rw [upd_ne n]; exact h⟩)
    · exact .inr h
  ext := fun a p h => by rw [upd_ne (fun e => by rw [e, hD] at h; cases h)]; exact h
  rol := fun a zs h => by
    rcases h with ⟨o, h⟩ | h
    · have n : a ≠ D := fun e => by rw [e, hD] at h; cases h
      exact .inl ⟨o, by rw [upd_ne n]; exact h⟩
    · exact .inr h
theorem MemOk.updD {D : Addr} {xs ys : List (Key × V)} (mo : MemOk K ι m H) (hD : H D = some (.dK xs)) (hn : D ∉ ι) : MemOk K ι m (L2.upd H D (.dK ys)) :=
  ⟨mo.len, mo.nd, fun n a c h1 h2 => (mo.cell n a c h1 h2).keep (kept_updD hD) (upd_ne fun e => hn (by rw [← e]; exact List.mem_of_getElem? h1)), mo.top, mo.ord, mo.clean⟩
theorem MemOk.adoptC {D : Addr} {c : Cell} (mo : MemOk K ι m H) (hn : D ∉ ι) (hc : CellOk K (ι ++ [D]) H D c) : MemOk K (ι ++ [D]) (m.push c) H := by
  refine ⟨by simp [Mm.push, mo.len], ?_, fun n a c' h1 h2 => ?_, fun q hq => ?_, mo.ord, fun q hq n c' hlt hd hc' => ?_⟩
  · rw [List.nodup_append]
    exact ⟨mo.nd, by simp, fun a ha b hb e => hn (by rw [List.mem_singleton.mp hb] at e; rw [← e]; exact ha)⟩
  · by_cases hlt : n < ι.length
    · rw [List.getElem?_append_left hlt] at h1
      have h2' : m.cells[n]? = some c' := by
        have : (m.cells ++ [c])[n]? = some c' := h2
        rwa [List.getElem?_append_left (by rw [← mo.len]; exact hlt)] at this
      exact (mo.cell n a c' h1 h2').keep kept_more rfl
    · have hl := get_of h1
      rw [List.length_append, List.length_singleton] at hl
      have e : n = ι.length := by omega
      subst e
      have e1 : a = D := by simpa using h1.symm
      have e2 : c' = c := by
        have : (m.cells ++ [c])[ι.length]? = some c' := h2
        rw [mo.len] at this
        simpa using this.symm
      subst e1; subst e2
      exact hc
  · have := mo.top q hq
    show q.1 ≤ (m.cells ++ [c]).length
    rw [List.length_append]; omega
  · have ht := mo.top q hq
    have h2 : (m.cells ++ [c])[n]? = some c' := hc'
    rw [List.getElem?_append_left (by omega)] at h2
    exact mo.clean q hq n c' hlt hd h2
theorem keyW_ok {w : Wd} {v : V} {k : Key} (r : RelW K ι H w v) (h : keyW w = some k) : v = kV k := by
  unfold keyW at h
  split at h
  · rename_i x
    have e := keyOf_ok h
    subst e
    cases k with
    | inl i => exact relW_int r
    | inr x => exact relW_str r
  · cases h
theorem post_dc {s : Em (List Wd × Gd)} {t : Tg} {g : TG} {c : Em Bool} {fk fv : Em Wd} {own : List Nat} {Q : VK} (hk : GtOk K t g) (hsub : ∀ i ∈ t.slots, i ∈ own) (h : tE K W (eDc s t c fk fv own) σ H Q) : tDc (tI K W s) g (tT K W0 c) (tE K W0 fk) (tE K W0 fv) own σ H Q := by
  obtain ⟨ι, env, m, eo, mo, p⟩ := h
  refine ⟨ι, env, m, eo, mo, ?_⟩
  have p' : Post K W (RelW K) ι H σ Q ((s env m).bind fun p m => match dcL t c fk fv p.2 (forget own env) p.1 [] m with
    | .ok xs m => .ok (.ref m.cells.length) (m.push (.dct xs))
    | _ => .stuck) := p
  cases q : s env m with
  | stuck => rw [q] at p'; exact p'.elim
  | exc x m1 => rw [q] at p'; exact p'
  | ok pr m1 =>
    obtain ⟨xs, gd⟩ := pr
    rw [q] at p'
    simp only [Rs.bind_ok] at p'
    intro ι1 H1 J st1 mo1 sr D hD
    have nD1 : D ∉ ι1 := mo1.new hD
    have eo1 : EnvOk K ι1 H1 (forget own env) (wipe σ own) := wipe_env (eo.step mo.apart st1)
    let R : Rs (List (PyData × Wd)) → Prop := fun r => match r with
      | .ok ys m2 => ∀ ι2 H2 vs, Stp ι1 H1 ι2 H2 → MemOk K ι2 m2 H2 → D ∉ ι2 → H2 D = some (.dK vs) → KvOk K ι2 H2 ys vs → Q (.ref D) H2
      | _ => False
    have hR : R (dcL t c fk fv gd (forget own env) xs [] m1) := by
      cases q2 : dcL t c fk fv gd (forget own env) xs [] m1 with
      | ok ys m2 =>
        rw [q2] at p'
        intro ι2 H2 vs s2 mo2 nD e2 r2
        have hs : Stp ι H (ι2 ++ [D]) H2 := by
          have hst := st1.trans s2
          refine ⟨hst.pre.trans (List.prefix_append _ _), fun a ha n => ?_, hst.fix⟩
          rcases List.mem_append.mp ha with z | z
          · exact hst.new a z n
          · rw [List.mem_singleton.mp z] at n ⊢
            cases e : H D with
            | none => rfl
            | some o => rw [st1.fix D o e n] at hD; cases hD
        exact p' (ι2 ++ [D]) H2 (.ref D) hs (mo2.adoptC nD ⟨vs, e2, r2.keep kept_more⟩) (.ref (by rw [← mo2.len]; simp))
      | exc x m2 => rw [q2] at p'; exact p'.elim
      | stuck => rw [q2] at p'; exact p'.elim
    refine ⟨fun i n H' => n = xs.length - i ∧ i ≤ xs.length ∧ ∃ ι' m' acc vacc, Stp ι1 H1 ι' H' ∧ MemOk K ι' m' H' ∧ EnvOk K ι' H' (forget own env) (wipe σ own) ∧ D ∉ ι' ∧ H' D = some (.dK vacc) ∧ KvOk K ι' H' acc vacc ∧ R (dcL t c fk fv gd (forget own env) (xs.drop i) acc m'), ⟨xs.length, by simp, Nat.zero_le _, ι1, m1, [], [], ?_, ?_, ?_, nD1, upd_same, True.intro, hR⟩, ?_⟩
    · exact stp_tup hD
    · exact mo1.stay (ι' := ι1) (stp_tup hD) fun a ha => upd_ne fun e => nD1 (by rw [← e]; exact ha)
    · exact eo1.step mo1.apart (stp_tup hD)
    rintro i n H' ⟨hn, hi', ι', m', acc, vacc, st', mo', eo', nD, eD, ra, hr⟩
    by_cases hlt : i < xs.length
    · rw [List.drop_eq_getElem_cons hlt] at hr
      have hr' : R (if gdOk gd m' = true then (match t.put xs[i] (forget own env) with
        | none => .stuck
        | some e => (c e m').bind fun b m => if b = true then (fk e m).bind fun k m => (fv e m).bind fun x m => (match keyW k with
          | some k => if acc.length < LIM then dcL t c fk fv gd (forget own env) (xs.drop (i + 1)) (putW acc k x) m else .stuck
          | none => .stuck) else dcL t c fk fv gd (forget own env) (xs.drop (i + 1)) acc m) else .stuck) := hr
      by_cases hgd : gdOk gd m' = true
      · rw [if_pos hgd] at hr'
        refine .inr ⟨sr.go i ι' m' H' hlt st' mo' hgd, fun H2 => ∃ ι2 m2 acc vacc, Stp ι1 H1 ι2 H2 ∧ MemOk K ι2 m2 H2 ∧ EnvOk K ι2 H2 (forget own env) (wipe σ own) ∧ D ∉ ι2 ∧ H2 D = some (.dK vacc) ∧ KvOk K ι2 H2 acc vacc ∧ R (dcL t c fk fv gd (forget own env) (xs.drop (i + 1)) acc m2), fun H2 h2 => ⟨xs.length - (i + 1), by omega, rfl, hlt, h2⟩, fun x H2 hy => ?_⟩
        obtain ⟨s2, mo2, r2⟩ := sr.yld i ι' m' H' x H2 xs[i] st' mo' hgd hy (List.getElem?_eq_getElem hlt)
        cases qp : t.put xs[i] (forget own env) with
        | none => rw [qp] at hr'; exact hr'.elim
        | some e =>
          rw [qp] at hr'
          refine hk ι' H2 m' (forget own env) e (wipe σ own) xs[i] x _ mo2 (eo'.step mo'.apart s2) r2 qp fun σ3 s3 => ⟨?_, ?_⟩
          · refine (wipe_same s3.len fun i hi => s3.out i fun z => hi (hsub i z)).trans ?_
            exact wipe_same (by rw [wipe_length]) fun i hi => by rw [wipe_out hi]
          · simp only [] at hr'
            have eD2 : H2 D = some (.dK vacc) := s2.fix D _ eD nD
            refine ⟨ι', e, m', s3.ok, mo2, ?_⟩
            cases qc : c e m' with
            | stuck => rw [qc] at hr'; exact hr'.elim
            | exc x m2 => rw [qc] at hr'; exact hr'.elim
            | ok b m2 =>
              rw [qc] at hr'
              simp only [Rs.bind_ok] at hr'
              intro ι3 H3 b' s4 mo4 eb
              subst eb
              have nD3 : D ∉ ι3 := fun z => by have := s4.new D z nD; rw [eD2] at this; cases this
              have eD3 : H3 D = some (.dK vacc) := s4.fix D _ eD2 nD
              cases b with
              | false =>
                rw [if_neg (by decide)] at hr' ⊢
                exact ⟨ι3, m2, acc, vacc, (st'.trans s2).trans s4, mo4, (eo'.step mo'.apart s2).step mo2.apart s4, nD3, eD3, (ra.step mo'.apart s2).step mo2.apart s4, hr'⟩
              | true =>
                rw [if_pos rfl] at hr' ⊢
                refine ⟨ι3, e, m2, s3.ok.step mo2.apart s4, mo4, ?_⟩
                cases qf : fk e m2 with
                | stuck => rw [qf] at hr'; exact hr'.elim
                | exc x m3 => rw [qf] at hr'; exact hr'.elim
                | ok y m3 =>
                  rw [qf] at hr'
                  simp only [Rs.bind_ok] at hr'
                  intro ι4 H4 v s5 mo5 ry
                  have nD4 : D ∉ ι4 := fun z => by have := s5.new D z nD3; rw [eD3] at this; cases this
                  have eD4 : H4 D = some (.dK vacc) := s5.fix D _ eD3 nD3
                  refine ⟨ι4, e, m3, (s3.ok.step mo2.apart s4).step mo4.apart s5, mo5, ?_⟩
                  cases qg : fv e m3 with
                  | stuck => rw [qg] at hr'; exact hr'.elim
                  | exc x m4 => rw [qg] at hr'; exact hr'.elim
                  | ok z m4 =>
                    rw [qg] at hr'
                    simp only [Rs.bind_ok] at hr'
                    intro ι5 H5 u s6 mo6 rz
                    have nD5 : D ∉ ι5 := fun z => by have := s6.new D z nD4; rw [eD4] at this; cases this
                    have eD5 : H5 D = some (.dK vacc) := s6.fix D _ eD4 nD4
                    have ra5 := (((ra.step mo'.apart s2).step mo2.apart s4).step mo4.apart s5).step mo5.apart s6
                    cases qk : keyW y with
                    | none => rw [qk] at hr'; exact hr'.elim
                    | some k =>
                      rw [qk] at hr'
                      simp only [] at hr'
                      by_cases hl : acc.length < LIM
                      · rw [if_pos hl] at hr'
                        have hl2 : vacc.length < sizeLine := by rw [← ra5.length, ← LIM_eq]; exact hl
                        have kk := kept_updD (K := K) (ι := ι5) (ys := putK vacc k u) eD5
                        refine ⟨vacc, k, keyW_ok ry qk, eD5, hl2, ι5, m4, putW acc k z, putK vacc k u, ?_, mo6.updD eD5 nD5, ?_, nD5, upd_same, kv_put (rz.keep kk) (ra5.keep kk), hr'⟩
                        · have s7 := (((st'.trans s2).trans s4).trans s5).trans s6
                          exact ⟨s7.pre, s7.new, fun a o h n => by rw [upd_ne (ne_of_none h hD)]; exact s7.fix a o h n⟩
                        · have e5 := (((eo'.step mo'.apart s2).step mo2.apart s4).step mo4.apart s5).step mo5.apart s6
                          exact ⟨e5.1, fun j w q => let ⟨v, q1, r⟩ := e5.2 j w q; ⟨v, q1, r.keep kk⟩⟩
                      · rw [if_neg hl] at hr'; exact hr'.elim
      · rw [if_neg hgd] at hr'; exact hr'.elim
    · have e : i = xs.length := by omega
      subst e
      rw [List.drop_length] at hr
      have hr' : R (if gdOk gd m' = true then .ok acc m' else .stuck) := hr
      by_cases hgd : gdOk gd m' = true
      · rw [if_pos hgd] at hr'
        exact .inl ⟨sr.stop _ ι' m' H' (Nat.le_refl _) st' mo' hgd, hr' ι' H' vacc st' mo' nD eD ra⟩
      · rw [if_neg hgd] at hr'; exact hr'.elim
theorem de_dc {kx vx tg iter : Expr} {ifs : List Expr} {scope : Scope} {own : List (Str × Nat)} {pos : Pos} {s : Em (List Wd × Gd)} {t : Tg} {g : TG} {c : Em Bool} {fk fv : Em Wd} (hc : X.calm = true) (hN : X.N.Nodup) (hi : PI X tg iter (tI X.K W s)) (ok : BlkOk X.N X.env.scope scope own)
    (hg : ∀ (s : Shared) (H : Hp) (C : Addr) (cl : List (Str × Addr)) (fp : List Addr), PG (X.blk s H scope (compEnvC scope cl C X.env) fp) tg g) (hk : GtOk X.K t g) (hsub : (t.slots.all fun i => (own.map (·.2)).contains i) = true) (ht : ∀ (s : Shared) (H : Hp) (C : Addr) (cl : List (Str × Addr)) (fp : List Addr), PTs (X.blk s H scope (compEnvC scope cl C X.env) fp) ifs (tT X.K W0 c))
    (hk2 : ∀ (s : Shared) (H : Hp) (C : Addr) (cl : List (Str × Addr)) (fp : List Addr), PE (X.blk s H scope (compEnvC scope cl C X.env) fp) kx (tE X.K W0 fk))
    (he : ∀ (s : Shared) (H : Hp) (C : Addr) (cl : List (Str × Addr)) (fp : List Addr), PE (X.blk s H scope (compEnvC scope cl C X.env) fp) vx (tE X.K W0 fv)) (hs : ∀ x, foldedSetIterable iter X.env x = pure x := by intro _; rfl) :
    PE X (.DictComp kx vx [⟨tg, iter, ifs, 0⟩] scope pos) (tE X.K W (eDc s t c fk fv (own.map (·.2)))) :=
  PEimp (pe_dc hc hN hi ok hg ht hk2 he hs) fun σ H Q h => post_dc hk (fun i hi => by simpa using List.all_eq_true.mp hsub i hi) h
end
end DL
set_option Elab.async false
set_option linter.all false
set_option maxRecDepth 100000
set_option maxHeartbeats 2000000
namespace DL
open PySem PySem.Spec PyProof.Rows L2

abbrev IsZipB (h : Heap) (z TI TO : Addr) (f0 f1 : Value) : Prop := h.get? z = some { cls := .type "zip", dict := none, data := .fields #[f0, f1, .bool false, .ref TI, .ref TO], slots := #[] }
section
variable {prog : Program} {w : World} {A : Around} {E : Value → Shared → Prop} {s : Shared} {z TI TO i1 i2 T : Addr} {fp1 fp2 : List Addr} {n1 n2 i : Nat} {P1 P2 : Nat → Value → Prop} {St1 St2 : Nat → Heap → Prop}
theorem zipB_free {b : Bool} {o : Obj} {Q : Bool → Shared → Prop} (hz : IsZipB s.heap z TI TO (rawInt T) (.bool b)) (hT : s.heap.get? T = some o)
    (h : ∀ h', IsZipB h' z TI TO (rawInt T) (.bool true) → Heap.SameBut z s.heap h' → Q false { s with heap := h' }) : wpAny (model prog w) A (Builtin.SmallTypes.ownedTupleIsFree (.ref z)) Q E s := by
  obtain ⟨hp, g, d, tk0, os⟩ := s
  unfold Builtin.SmallTypes.ownedTupleIsFree
  refine wpAny_bind (wpAny_field hz rfl (x := rawInt T) rfl ?_)
  show wpAny _ _ (loadIfAlive T >>= _) _ _ _
  refine wpAny_bind (PySem.W.kdx_alive hT ?_)
  simp only [Option.isNone_some, Bool.false_eq_true, if_false]
  cases b with
  | true =>
    refine wpAny_bind (wpAny_field hz rfl (x := .bool true) rfl ?_)
    rw [if_neg (by decide)]
    exact wpAny_pure (h _ hz ⟨rfl, fun _ _ => rfl⟩)
  | false =>
    refine wpAny_bind (wpAny_field hz rfl (x := .bool false) rfl ?_)
    rw [if_pos (by decide)]
    refine wpAny_bind (wpAny_setField_rec hz (by simp) fun g0 hz0 hs0 => ?_)
    exact wpAny_pure (h g0 hz0 hs0)
theorem zipB_next_item {b : Bool} {o : Obj} {Q : Value → Shared → Prop} (S : ZipSep2 z TI TO i1 i2 fp1 fp2) (D1 : Draws prog w A i1 fp1 n1 P1 St1) (D2 : Draws prog w A i2 fp2 n2 P2 St2)
    (hz : IsZipB s.heap z TI TO (rawInt T) (.bool b)) (hT : s.heap.get? T = some o) (hTI : IsTupOf2 s.heap TI (.ref i1) (.ref i2)) (st1 : St1 i s.heap) (st2 : St2 i s.heap) (hlt1 : i < n1) (hlt2 : i < n2)
    (hQ : ∀ x1 x2 h' tk, P1 i x1 → P2 i x2 → IsZipB h' z TI TO (rawInt T) (.bool true) → St1 (i + 1) h' → St2 (i + 1) h' → IsTupOf2 h' s.heap.objs.size x1 x2 → h'.objs.size = s.heap.objs.size + 1 →
      (∀ c o, c ≠ z → c ≠ i1 → c ≠ i2 → s.heap.get? c = some o → h'.get? c = some o) → Q (.ref s.heap.objs.size) { s with heap := h', toks := tk }) :
    wpAny (model prog w) A (Builtin.«zip.__next__» ⟨[.ref z], []⟩) (fun fin s' => ∃ v, fin = .done (.ret v) ∧ Q v s') E s := by
  obtain ⟨hp, g, d, tk0, os⟩ := s
  show wpAny _ _ (field (.ref z) 2 >>= _) _ _ _
  refine wpAny_bind (wpAny_field hz rfl (x := .bool false) rfl ?_)
  show wpAny _ _ (field (.ref z) 3 >>= _) _ _ _
  refine wpAny_bind (wpAny_field hz rfl (x := .ref TI) rfl ?_)
  refine wpAny_bind (wpAny_seqItems hTI rfl ?_)
  show wpAny _ _ (Builtin.SmallTypes.ownedTupleIsFree (.ref z) >>= _) _ _ _
  refine wpAny_bind (zipB_free hz hT fun g0 hz0 hs0 => ?_)
  replace hs0 : Heap.SameBut z hp g0 := hs0
  simp only [Bool.false_eq_true, if_false]
  try dsimp only
  refine wpAny_bind ?_
  first
  | rw [List.forIn_toArray]
  | (rw [← Array.forIn_toList]; simp only [List.toList_toArray])
  simp only [List.forIn_cons, List.forIn_nil]
  refine wpAny_bind (wpAny_bind (wpAny_holding ?_))
  show wpAny _ _ (Builtin.SmallTypes.nextOf (.ref i1) >>= _) _ _ ⟨g0, g, d, tk0, os⟩
  refine wpAny_bind (D1.item i _ _ _ hlt1 (D1.over st1 hs0 S.zf1) fun x1 p1 tk1 hx1 sn1 hp1 => wpAny_pure ?_)
  replace hp1 : Heap.SameBut i1 g0 p1 := hp1
  refine wpAny_pure ?_
  refine wpAny_bind (wpAny_bind (wpAny_holding ?_))
  show wpAny _ _ (Builtin.SmallTypes.nextOf (.ref i2) >>= _) _ _ ⟨p1, g, d, tk1, os⟩
  refine wpAny_bind (D2.item i _ _ _ hlt2 (D2.over (D2.over st2 hs0 S.zf2) hp1 S.sep1_2) fun x2 p2 tk2 hx2 sn2 hp2 => wpAny_pure ?_)
  replace hp2 : Heap.SameBut i2 p1 p2 := hp2
  refine wpAny_pure (wpAny_pure ?_)
  refine wpAny_bind (wpAny_newTuple ?_ (by show 2 ≤ sizeLine; decide))
  have hsz : p2.objs.size = hp.objs.size := by rw [hp2.1, hp1.1, hs0.1]
  have hzz : IsZipB p2 z TI TO (rawInt T) (.bool true) := hp2.extBut _ _ S.zi2 (hp1.extBut _ _ S.zi1 hz0)
  have hkk : ∀ c o, c ≠ z → c ≠ i1 → c ≠ i2 → hp.get? c = some o → p2.get? c = some o := fun c o cz c1 c2 e => hp2.extBut _ _ c2 (hp1.extBut _ _ c1 (hs0.extBut _ _ cz e))
  have hj1 : St1 (i + 1) p2 := D1.over sn1 hp2 S.sep2_1
  have up : ∀ c o, p2.get? c = some o → (p2.push { cls := .type "tuple", data := .seq #[x1, x2] }).get? c = some o := fun c o e => Heap.get?_push_of_some _ e
  have hT8 : IsTupOf2 (p2.push { cls := .type "tuple", data := .seq #[x1, x2] }) p2.objs.size x1 x2 := Heap.get?_push_size _ rfl
  have hz8 : (p2.push { cls := .type "tuple", data := .seq #[x1, x2] }).objs.size = p2.objs.size + 1 := Heap.size_push ..
  refine wpAny_pure ⟨_, rfl, ?_⟩
  rw [hsz] at hT8 hz8
  show Q (.ref p2.objs.size) ⟨p2.push { cls := .type "tuple", data := .seq #[x1, x2] }, g, d, tk2, os⟩
  rw [hsz]
  exact hQ x1 x2 _ tk2 hx1 hx2 (up _ _ hzz) (D1.frame _ _ _ hj1 fun b hb o e => up b o e) (D2.frame _ _ _ sn2 fun b hb o e => up b o e) hT8 hz8 fun c o cz c1 c2 e => up c o (hkk c o cz c1 c2 e)
theorem zipB_next_end {b : Bool} {o : Obj} {Q : Fin → Shared → Prop} (S : ZipSep2 z TI TO i1 i2 fp1 fp2) (D1 : Draws prog w A i1 fp1 n1 P1 St1) (D2 : Draws prog w A i2 fp2 n2 P2 St2)
    (hz : IsZipB s.heap z TI TO (rawInt T) (.bool b)) (hT : s.heap.get? T = some o) (hTI : IsTupOf2 s.heap TI (.ref i1) (.ref i2)) (st1 : St1 i s.heap) (st2 : St2 i s.heap) (hle1 : i ≤ n1) (hle2 : i ≤ n2) (hend : i = n1 ∨ i = n2)
    (hE : ∀ h' tk e, (∀ c o, c ≠ z → c ≠ i1 → c ≠ i2 → s.heap.get? c = some o → h'.get? c = some o) → (∃ o, h'.get? e = some o ∧ o.cls = .type "StopIteration") → E (.ref e) { s with heap := h', toks := tk }) :
    wpAny (model prog w) A (Builtin.«zip.__next__» ⟨[.ref z], []⟩) Q E s := by
  obtain ⟨hp, g, d, tk0, os⟩ := s
  show wpAny _ _ (field (.ref z) 2 >>= _) _ _ _
  refine wpAny_bind (wpAny_field hz rfl (x := .bool false) rfl ?_)
  show wpAny _ _ (field (.ref z) 3 >>= _) _ _ _
  refine wpAny_bind (wpAny_field hz rfl (x := .ref TI) rfl ?_)
  refine wpAny_bind (wpAny_seqItems hTI rfl ?_)
  show wpAny _ _ (Builtin.SmallTypes.ownedTupleIsFree (.ref z) >>= _) _ _ _
  refine wpAny_bind (zipB_free hz hT fun g0 hz0 hs0 => ?_)
  replace hs0 : Heap.SameBut z hp g0 := hs0
  simp only [Bool.false_eq_true, if_false]
  try dsimp only
  refine wpAny_bind ?_
  first
  | rw [List.forIn_toArray]
  | (rw [← Array.forIn_toList]; simp only [List.toList_toArray])
  simp only [List.forIn_cons, List.forIn_nil]
  refine wpAny_bind (wpAny_bind (wpAny_holding ?_))
  show wpAny _ _ (Builtin.SmallTypes.nextOf (.ref i1) >>= _) _ _ ⟨g0, g, d, tk0, os⟩
  by_cases hlt1 : i < n1
  · refine wpAny_bind (D1.item i _ _ _ hlt1 (D1.over st1 hs0 S.zf1) fun x1 p1 tk1 hx1 sn1 hp1 => wpAny_pure ?_)
    replace hp1 : Heap.SameBut i1 g0 p1 := hp1
    refine wpAny_pure ?_
    have hi2 : i = n2 := by omega
    refine wpAny_bind (wpAny_bind (wpAny_holding ?_))
    show wpAny _ _ (Builtin.SmallTypes.nextOf (.ref i2) >>= _) _ _ ⟨p1, g, d, tk1, os⟩
    refine wpAny_bind (D2.done ⟨p1, g, d, tk1, os⟩ _ _ (by rw [← hi2]; exact D2.over (D2.over st2 hs0 S.zf2) hp1 S.sep1_2) fun q e hq he => ?_)
    replace hq : Heap.ExtBut i2 p1 q := hq
    exact hE q tk1 e (fun c o cz c1 c2 x => hq _ _ c2 (hp1.extBut _ _ c1 (hs0.extBut _ _ cz x))) he
  · have hi1 : i = n1 := by omega
    refine wpAny_bind (D1.done ⟨g0, g, d, tk0, os⟩ _ _ (by rw [← hi1]; exact D1.over st1 hs0 S.zf1) fun q e hq he => ?_)
    replace hq : Heap.ExtBut i1 g0 q := hq
    exact hE q tk0 e (fun c o cz c1 c2 x => hq _ _ c1 (hs0.extBut _ _ cz x)) he
/-- one more, or the end -/
theorem zipB_pyNext_item {b : Bool} {o : Obj} {Q : Option Value → Shared → Prop} (S : ZipSep2 z TI TO i1 i2 fp1 fp2) (D1 : Draws prog w A.in1 i1 fp1 n1 P1 St1) (D2 : Draws prog w A.in1 i2 fp2 n2 P2 St2)
    (hz : IsZipB s.heap z TI TO (rawInt T) (.bool b)) (hT : s.heap.get? T = some o) (hTI : IsTupOf2 s.heap TI (.ref i1) (.ref i2)) (st1 : St1 i s.heap) (st2 : St2 i s.heap) (hlt1 : i < n1) (hlt2 : i < n2)
    (hQ : ∀ x1 x2 h' tk, P1 i x1 → P2 i x2 → IsZipB h' z TI TO (rawInt T) (.bool true) → St1 (i + 1) h' → St2 (i + 1) h' → IsTupOf2 h' s.heap.objs.size x1 x2 → h'.objs.size = s.heap.objs.size + 1 →
      (∀ c o, c ≠ z → c ≠ i1 → c ≠ i2 → s.heap.get? c = some o → h'.get? c = some o) → Q (some (.ref s.heap.objs.size)) { s with heap := h', toks := tk }) :
    wpAny (model prog w) A (pyNext (.ref z)) Q E s := by
  have hT0 : s.TypeIs (.ref z) "zip" := ⟨_, hz, rfl⟩
  unfold pyNext
  exact wpAny_bind (wpAny_attempt (wpAny_callSpecial?_slot (name := Str.ofString "__next__") hT0 F.slot_zip_next
    (wpAny_call_entry F.slot_zip_next hT0 F.entry_zip_next
      (zipB_next_item S D1 D2 hz hT hTI st1 st2 hlt1 hlt2 fun x1 x2 h' tk y1 y2 b1 d1 d2 b5 b6 b7 => wpAny_pure (hQ x1 x2 h' tk y1 y2 b1 d1 d2 b5 b6 b7)) (F.args_zip_next_1 _))))
theorem zipB_pyNext_end {b : Bool} {o : Obj} {Q : Option Value → Shared → Prop} (S : ZipSep2 z TI TO i1 i2 fp1 fp2) (D1 : Draws prog w A.in1 i1 fp1 n1 P1 St1) (D2 : Draws prog w A.in1 i2 fp2 n2 P2 St2)
    (hz : IsZipB s.heap z TI TO (rawInt T) (.bool b)) (hT : s.heap.get? T = some o) (hTI : IsTupOf2 s.heap TI (.ref i1) (.ref i2)) (st1 : St1 i s.heap) (st2 : St2 i s.heap) (hle1 : i ≤ n1) (hle2 : i ≤ n2) (hend : i = n1 ∨ i = n2)
    (hQ : ∀ h' tk, (∀ c o, c ≠ z → c ≠ i1 → c ≠ i2 → s.heap.get? c = some o → h'.get? c = some o) → Q none { s with heap := h', toks := tk }) : wpAny (model prog w) A (pyNext (.ref z)) Q E s := by
  have hT0 : s.TypeIs (.ref z) "zip" := ⟨_, hz, rfl⟩
  unfold pyNext
  refine wpAny_bind (wpAny_attempt (wpAny_callSpecial?_slot (name := Str.ofString "__next__") hT0 F.slot_zip_next
    (wpAny_call_entry F.slot_zip_next hT0 F.entry_zip_next (zipB_next_end S D1 D2 hz hT hTI st1 st2 hle1 hle2 hend fun h' tk e hk he => ?_) (F.args_zip_next_1 _))))
  obtain ⟨o, ho, hc⟩ := he
  refine wpAny_bind (wpAny_isInstance (T := "StopIteration") (b := true) ⟨o, ho, hc⟩ isSubtype_stop ?_)
  exact wpAny_pure (hQ _ _ hk)
/-- zip's state, the last pair handed out and held, or none yet -/
def ZSt (TI TO z i1 i2 : Addr) (St1 St2 : Nat → Heap → Prop) (i : Nat) (h : Heap) : Prop :=
  IsTupOf2 h TI (.ref i1) (.ref i2) ∧ (∃ a1 a2, IsTupOf2 h TO a1 a2) ∧ St1 i h ∧ St2 i h ∧ (IsZip h z TI TO .none ∨ ∃ (T : Addr) (b : Bool) (o : Obj), IsZipB h z TI TO (rawInt T) (.bool b) ∧ h.get? T = some o ∧ T ≠ z ∧ T ≠ TO ∧ T ≠ i1 ∧ T ≠ i2)
theorem zst_item {Q : Option Value → Shared → Prop} (S : ZipSep2 z TI TO i1 i2 fp1 fp2) (D1 : Draws prog w A.in1 i1 fp1 n1 P1 St1) (D2 : Draws prog w A.in1 i2 fp2 n2 P2 St2) (hst : ZSt TI TO z i1 i2 St1 St2 i s.heap) (hlt1 : i < n1) (hlt2 : i < n2)
    (hQ : ∀ x1 x2 h' tk, P1 i x1 → P2 i x2 → ZSt TI TO z i1 i2 St1 St2 (i + 1) h' → IsTupOf2 h' s.heap.objs.size x1 x2 → h'.objs.size = s.heap.objs.size + 1 →
      (∀ c o, c ∉ [z, TO, i1, i2] → s.heap.get? c = some o → h'.get? c = some o) → Q (some (.ref s.heap.objs.size)) { s with heap := h', toks := tk }) :
    wpAny (model prog w) A (pyNext (.ref z)) Q E s := by
  obtain ⟨hTI, ⟨a1, a2, hTO⟩, st1, st2, hz⟩ := hst
  have lt : ∀ {c o}, s.heap.get? c = some o → s.heap.objs.size ≠ c := fun e => Nat.ne_of_gt (Heap.lt_size e)
  have l1 : s.heap.objs.size ≠ i1 := by obtain ⟨_, e⟩ := D1.live _ _ st1; exact lt e
  have l2 : s.heap.objs.size ≠ i2 := by obtain ⟨_, e⟩ := D2.live _ _ st2; exact lt e
  rcases hz with hz | ⟨T, b, o, hz, hT, t1, t2, t3, t4⟩
  · refine wpAny_pyNext_zipD2_item S D1 D2 hz hTI hTO st1 st2 hlt1 hlt2 fun x1 x2 h' tk p1 p2 b1 b2 d1 d2 b5 b6 hk => ?_
    exact hQ x1 x2 h' tk p1 p2 ⟨hk _ _ S.TIz S.TITO S.TIi1 S.TIi2 hTI, ⟨_, _, b2⟩, d1, d2, .inr ⟨_, false, _, b1, b5, lt hz, lt hTO, l1, l2⟩⟩ b5 b6 fun c o hc e =>
      hk c o (fun x => hc (by simp [x])) (fun x => hc (by simp [x])) (fun x => hc (by simp [x])) (fun x => hc (by simp [x])) e
  · refine zipB_pyNext_item S D1 D2 hz hT hTI st1 st2 hlt1 hlt2 fun x1 x2 h' tk p1 p2 b1 d1 d2 b5 b6 hk => ?_
    exact hQ x1 x2 h' tk p1 p2 ⟨hk _ _ S.TIz S.TIi1 S.TIi2 hTI, ⟨_, _, hk _ _ S.TOz S.Ti1 S.Ti2 hTO⟩, d1, d2, .inr ⟨T, true, o, b1, hk _ _ t1 t3 t4 hT, t1, t2, t3, t4⟩⟩ b5 b6 fun c o hc e =>
      hk c o (fun x => hc (by simp [x])) (fun x => hc (by simp [x])) (fun x => hc (by simp [x])) e
theorem zst_end {Q : Option Value → Shared → Prop} (S : ZipSep2 z TI TO i1 i2 fp1 fp2) (D1 : Draws prog w A.in1 i1 fp1 n1 P1 St1) (D2 : Draws prog w A.in1 i2 fp2 n2 P2 St2) (hst : ZSt TI TO z i1 i2 St1 St2 i s.heap) (hle1 : i ≤ n1) (hle2 : i ≤ n2) (hend : i = n1 ∨ i = n2)
    (hQ : ∀ h' tk, (∀ c o, c ∉ [z, TO, i1, i2] → s.heap.get? c = some o → h'.get? c = some o) → Q none { s with heap := h', toks := tk }) : wpAny (model prog w) A (pyNext (.ref z)) Q E s := by
  obtain ⟨hTI, ⟨a1, a2, hTO⟩, st1, st2, hz⟩ := hst
  rcases hz with hz | ⟨T, b, o, hz, hT, t1, t2, t3, t4⟩
  · exact wpAny_pyNext_zipD2_end S D1 D2 hz hTI hTO st1 st2 hle1 hle2 hend fun h' tk hk => hQ h' tk fun c o hc e =>
      hk c o (fun x => hc (by simp [x])) (fun x => hc (by simp [x])) (fun x => hc (by simp [x])) (fun x => hc (by simp [x])) e
  · exact zipB_pyNext_end S D1 D2 hz hT hTI st1 st2 hle1 hle2 hend fun h' tk hk => hQ h' tk fun c o hc e =>
      hk c o (fun x => hc (by simp [x])) (fun x => hc (by simp [x])) (fun x => hc (by simp [x])) e
theorem zst_keep {h h' : Heap} (D1 : Draws prog w A i1 fp1 n1 P1 St1) (D2 : Draws prog w A i2 fp2 n2 P2 St2) (hst : ZSt TI TO z i1 i2 St1 St2 i h) {S0 : Addr} (n1' : S0 ∉ fp1) (n2' : S0 ∉ fp2) (nz : S0 ≠ z) (nT : S0 ≠ TO) (nI : S0 ≠ TI) (hk : ∀ c o, c ≠ S0 → h.get? c = some o → h'.get? c = some o) (ex : ∀ o, h.get? S0 = some o → ∃ o', h'.get? S0 = some o') :
    ZSt TI TO z i1 i2 St1 St2 i h' := by
  obtain ⟨hTI, ⟨a1, a2, hTO⟩, st1, st2, hz⟩ := hst
  refine ⟨hk _ _ nI.symm hTI, ⟨a1, a2, hk _ _ nT.symm hTO⟩, D1.frame _ _ _ st1 fun b hb o e => hk b o (fun q => n1' (q ▸ hb)) e, D2.frame _ _ _ st2 fun b hb o e => hk b o (fun q => n2' (q ▸ hb)) e, ?_⟩
  rcases hz with hz | ⟨T, b, o, hz, hT, t⟩
  · exact .inl (hk _ _ nz.symm hz)
  · by_cases q : T = S0
    · subst q
      obtain ⟨o', e'⟩ := ex o hT
      exact .inr ⟨T, b, o', hk _ _ nz.symm hz, e', t⟩
    · exact .inr ⟨T, b, o, hk _ _ nz.symm hz, hk _ _ q hT, t⟩
end
end DL
set_option Elab.async false
set_option linter.all false
set_option maxRecDepth 100000
set_option maxHeartbeats 2000000
namespace DL
open PySem PySem.Spec PyProof.Rows L2
theorem nolen_zip : typeLookup (.type "zip") "__len__" = pure none := by rw [typeLookup_type, builtinLookup_eq_fast]; kernel_rfl
theorem nohint_zip : typeLookup (.type "zip") "__length_hint__" = pure none := by rw [typeLookup_type, builtinLookup_eq_fast]; kernel_rfl
/-- the pairs made so far -/
def PairsAt (xs ys : List V) (H : Hp) (acc : List V) : Prop := ∀ (j : Nat) (x y : V), j < acc.length → xs[j]? = some x → ys[j]? = some y → ∃ T : Addr, acc[j]? = some (.ref T) ∧ H T = some (.tup [x, y])
structure Grown (H H' : Hp) (S0 : Addr) : Prop where
  old : ∀ a o, a ≠ S0 → H a = some o → H' a = some o
section
variable {X : Cx} {A : Around} {pins : List (Addr × Obj)} {σ : L2.St} {z TI TO i1 i2 : Addr} {fp1 fp2 : List Addr} {n1 n2 : Nat} {P1 P2 : Nat → Value → Prop} {St1 St2 : Nat → Heap → Prop} {xs ys : List V} {R : Result → Shared → Prop}
theorem zip_loop {n : Nat} {S0 : Addr} {res : Value} (S : ZipSep2 z TI TO i1 i2 fp1 fp2) (D1 : Draws X.prog X.w A.in1.in1 i1 fp1 n1 P1 St1) (D2 : Draws X.prog X.w A.in1.in1 i2 fp2 n2 P2 St2)
    (hP1 : ∀ i x, P1 i x → ∃ v, xs[i]? = some v ∧ RelV v x) (hP2 : ∀ i x, P2 i x → ∃ v, ys[i]? = some v ∧ RelV v x) (s1 : S0 ∉ fp1) (s2 : S0 ∉ fp2) (sz : S0 ≠ z) (sT : S0 ≠ TO) (sI : S0 ≠ TI)
    (hn : n = min n1 n2) (hz : n ≤ sizeLine) : ∀ (k i : Nat) (s : Shared) (H H0 : Hp) (acc : List V), n - i = k → i ≤ n → Inv X pins σ H s → H S0 = some (.lst acc) → acc.length = i → PairsAt xs ys H acc → (∀ b ∈ [z, TO, i1, i2], FpOk X pins H b) → ZSt TI TO z i1 i2 St1 St2 i s.heap → Grown H0 H S0 →
      (∀ s' H' acc', Inv X pins σ H' s' → H' S0 = some (.lst acc') → acc'.length = n → PairsAt xs ys H' acc' → Grown H0 H' S0 → R (.ok (.ret res)) s') → codeAny (model X.prog X.w) A (.builtin "list.extend.loop" ⟨[.ref S0, .ref z, res], []⟩) R s := by
  intro k
  induction k with
  | zero =>
    intro i s H H0 acc hk hi I hS hl hp hf hst hg hR
    have hin : i = n := by omega
    subst hin
    refine codeAny_builtin F.entry_extend_loop ?_
    rw [Around.under_plainId F.plain_extend_loop _]
    show wpAny _ A.in1 (pyNext (.ref z) >>= _) _ _ s
    refine wpAny_bind (zst_end S D1 D2 hst (by omega) (by omega) (by omega) fun h' tk hk' => ?_)
    exact wpAny_pure (hR _ H acc (I.turnedL (t' := tk) hk' hf) hS hl hp hg)
  | succ k ih =>
    intro i s H H0 acc hk hi I hS hl hp hf hst hg hR
    refine codeAny_builtin F.entry_extend_loop ?_
    rw [Around.under_plainId F.plain_extend_loop _]
    show wpAny _ A.in1 (pyNext (.ref z) >>= _) _ _ s
    obtain ⟨hTI, ⟨a1, a2, hTO⟩, st1, st2, hzz⟩ := id hst
    have lt : ∀ {c o}, s.heap.get? c = some o → c < s.heap.objs.size := fun e => Heap.lt_size e
    have l1 : i1 < s.heap.objs.size := by obtain ⟨_, e⟩ := D1.live _ _ st1; exact lt e
    have l2 : i2 < s.heap.objs.size := by obtain ⟨_, e⟩ := D2.live _ _ st2; exact lt e
    have lz : z < s.heap.objs.size := by
      rcases hzz with e | ⟨_, _, _, e, _⟩
      · exact lt e
      · exact lt e
    have lT : TO < s.heap.objs.size := lt hTO
    have lS : S0 < s.heap.objs.size := I.hok.lt hS
    refine wpAny_bind (zst_item S D1 D2 hst (by omega) (by omega) fun x1 x2 h' tk p1 p2 hst' hT hsz hk' => ?_)
    obtain ⟨v1, e1, r1⟩ := hP1 _ _ p1
    obtain ⟨v2, e2, r2⟩ := hP2 _ _ p2
    have new : ObjOk X.prog X.w (upd H s.heap.objs.size (.tup [v1, v2])) h' s.heap.objs.size (.tup [v1, v2]) :=
      ⟨by show 2 ≤ sizeLine; decide, [x1, x2], .cons r1 (.cons r2 .nil), ⟨_, hT, rfl, _, rfl⟩⟩
    have I1 : Inv X pins σ (upd H s.heap.objs.size (.tup [v1, v2])) { s with heap := h', toks := tk } := I.turnedNew (t' := tk) hk' hf (Nat.le_refl _) new
    have hS1 : upd H s.heap.objs.size (.tup [v1, v2]) S0 = some (.lst acc) := (upd_ne (Nat.ne_of_lt lS)).trans hS
    obtain ⟨hzl, its, nn, rv, hlen, e⟩ := I1.lstM hS1
    show wpAny _ A.in1 (updateSeq S0 (·.push (.ref s.heap.objs.size)) >>= _) _ _ _
    refine wpAny_bind ?_
    have I2 : Inv X pins σ (upd (upd H s.heap.objs.size (.tup [v1, v2])) S0 (.lst (acc ++ [.ref s.heap.objs.size]))) { s with heap := h'.update S0 (Obj.mapSeq (·.push (.ref s.heap.objs.size))), toks := tk } :=
      I1.lset (its := its) (its' := its ++ [.ref s.heap.objs.size]) (f := (·.push (.ref s.heap.objs.size))) (t' := tk) hS1 e (by simp) (rv.append (.cons (show L2.RelV (.ref s.heap.objs.size) (.ref s.heap.objs.size) from rfl) .nil)) (by rw [List.length_append, List.length_singleton]; omega)
    have uN : ∀ {c : Addr}, c < s.heap.objs.size → c ≠ S0 → upd (upd H s.heap.objs.size (.tup [v1, v2])) S0 (.lst (acc ++ [.ref s.heap.objs.size])) c = H c := fun hc hn' => (upd_ne hn').trans (upd_ne (Nat.ne_of_lt hc))
    have hT2 : upd (upd H s.heap.objs.size (.tup [v1, v2])) S0 (.lst (acc ++ [.ref s.heap.objs.size])) s.heap.objs.size = some (.tup [v1, v2]) := (upd_ne (Nat.ne_of_gt lS)).trans upd_same
    refine wpAny_updateSeq e rfl (wpAny_pure ⟨plainId_quiet F.plain_extend_loop _, ih (i + 1) _ _ H0 (acc ++ [.ref s.heap.objs.size]) (by omega) (by omega) I2 upd_same (by rw [List.length_append, List.length_singleton]; omega) (fun j x y hj ex ey => ?_) (fun b hb => ?_) ?_ ?_ hR⟩)
    · rw [List.length_append, List.length_singleton] at hj
      by_cases hjl : j < acc.length
      · obtain ⟨T, q1, q2⟩ := hp j x y hjl ex ey
        have hTlt : T < s.heap.objs.size := I.hok.lt q2
        refine ⟨T, by rw [List.getElem?_append_left hjl]; exact q1, (uN hTlt fun q => ?_).trans q2⟩
        subst q; rw [hS] at q2; cases q2
      · have ej : j = i := by omega
        subst ej
        rw [e1] at ex; rw [e2] at ey
        cases ex; cases ey
        refine ⟨s.heap.objs.size, ?_, hT2⟩
        rw [List.getElem?_append_right (by omega), hl]
        simp
    · obtain ⟨f1, f2⟩ := hf b hb
      have hbl : b < s.heap.objs.size := by
        have e' : b = z ∨ b = TO ∨ b = i1 ∨ b = i2 := by simpa using hb
        rcases e' with q | q | q | q <;> (rw [q]; assumption)
      have hbS : b ≠ S0 := fun q => by subst q; rw [hS] at f1; cases f1
      exact ⟨(uN hbl hbS).trans f1, f2⟩
    · exact zst_keep D1 D2 hst' s1 s2 sz sT sI (fun c o hc e' => (Heap.get?_update_other _ _ (Ne.symm hc)).trans e') fun o e' => ⟨_, Heap.get?_update_self _ e rfl⟩
    · refine ⟨fun a o ha e' => ?_⟩
      have e2' := hg.old a o ha e'
      exact (uN (I.hok.lt e2') ha).trans e2'
/-- list(z), z a zip object -/
theorem zip_extend {n : Nat} {S0 : Addr} {res : Value} {s : Shared} {H : Hp} (S : ZipSep2 z TI TO i1 i2 fp1 fp2) (D1 : Draws X.prog X.w A.in1.in1 i1 fp1 n1 P1 St1) (D2 : Draws X.prog X.w A.in1.in1 i2 fp2 n2 P2 St2)
    (hP1 : ∀ i x, P1 i x → ∃ v, xs[i]? = some v ∧ RelV v x) (hP2 : ∀ i x, P2 i x → ∃ v, ys[i]? = some v ∧ RelV v x) (s1 : S0 ∉ fp1) (s2 : S0 ∉ fp2) (sz : S0 ≠ z) (sT : S0 ≠ TO) (sI : S0 ≠ TI)
    (hn : n = min n1 n2) (hz : n ≤ sizeLine) (I : Inv X pins σ H s) (hS : H S0 = some (.lst [])) (hf : ∀ b ∈ [z, TO, i1, i2], FpOk X pins H b) (hst : ZSt TI TO z i1 i2 St1 St2 0 s.heap) (h0 : IsZip s.heap z TI TO .none)
    (hR : ∀ s' H' acc', Inv X pins σ H' s' → H' S0 = some (.lst acc') → acc'.length = n → PairsAt xs ys H' acc' → Grown H H' S0 → R (.ok (.ret res)) s') :
    wpAny (model X.prog X.w) A.in1 (Builtin.List.listExtendWith (.ref S0) (.ref z) res)
      (fun fin s' => match fin with | .done f => R (.ok f) s' | .again c' => c'.quiet = true ∧ codeAny (model X.prog X.w) A c' R s') (fun e s' => R (.error e) s') s := by
  have hT : s.TypeIs (.ref z) "zip" := ⟨_, h0, rfl⟩
  unfold Builtin.List.listExtendWith
  refine wpAny_bind (wpAny_typeOf hT ?_)
  have h1 : Builtin.List.listSameRef (.ref S0) (.ref z) = false := by simp [Builtin.List.listSameRef, sz]
  have h2 : (Value.type "zip" == Value.type "list") = false := by decide
  have h3 : (Value.type "zip" == Value.type "tuple") = false := by decide
  simp only [h1, h2, h3, Bool.or_false, Bool.false_eq_true, if_false]
  refine wpAny_bind (wpAny_pyIter_zip h0 ?_)
  refine wpAny_bind (wpAny_holding ?_)
  unfold Builtin.List.listLengthHint
  refine wpAny_bind (wpAny_specialOf hT nolen_zip ?_)
  show wpAny _ A.in1 (specialOf (Value.ref z) (Str.ofString "__length_hint__") >>= _) _ _ _
  refine wpAny_bind (wpAny_specialOf hT nohint_zip ?_)
  refine wpAny_pure ?_
  show wpAny _ A.in1 (rule "list.extend.makes-room" >>= fun _ => Builtin.List.listTouch (.ref S0) >>= fun _ =>
    again (.builtin "list.extend.loop" ⟨[.ref S0, .ref z, res], []⟩)) _ _ _
  refine wpAny_bind (wpAny_rule ?_)
  refine wpAny_bind ?_
  show wpAny _ A.in1 (updateSeq S0 (·.push .none) >>= fun _ => updateSeq S0 (·.pop)) _ _ _
  obtain ⟨_, its, nn, rv, hlen, e⟩ := I.lstM hS
  have hits : its = [] := by cases its with | nil => rfl | cons _ _ => simp at hlen
  subst hits
  refine wpAny_bind (wpAny_updateSeq e rfl ?_)
  have e2 := Heap.get?_update_self (Obj.mapSeq (·.push Value.none)) e rfl
  refine wpAny_updateSeq (hz := by show 1 ≤ sizeLine; decide) e2 rfl ?_
  have I1 : Inv X pins σ (upd H S0 (.lst [.non])) { s with heap := s.heap.update S0 (Obj.mapSeq (·.push Value.none)) } := I.lset (its := []) (its' := [.none]) (f := (·.push Value.none)) (t' := s.toks) hS e (by simp) (.cons rfl .nil) (by show 1 ≤ sizeLine; decide)
  have I2 : Inv X pins σ (upd (upd H S0 (.lst [.non])) S0 (.lst [])) { s with heap := (s.heap.update S0 (Obj.mapSeq (·.push Value.none))).update S0 (Obj.mapSeq (·.pop)) } := I1.lset (its := [.none]) (its' := []) (f := (·.pop)) (t' := s.toks) upd_same e2 (by simp) .nil (by show 0 ≤ sizeLine; decide)
  have eu : upd (upd H S0 (.lst [.non])) S0 (.lst []) = H := by
    funext c
    by_cases q : c = S0
    · subst q; rw [upd_same, hS]
    · rw [upd_ne q, upd_ne q]
  rw [eu] at I2
  have oth : ∀ c o, c ≠ S0 → s.heap.get? c = some o → ((s.heap.update S0 (Obj.mapSeq (·.push Value.none))).update S0 (Obj.mapSeq (·.pop))).get? c = some o := fun c o hc q => (Heap.get?_update_other _ _ (Ne.symm hc)).trans ((Heap.get?_update_other _ _ (Ne.symm hc)).trans q)
  refine wpAny_pure ⟨plainId_quiet F.plain_extend_loop _, zip_loop S D1 D2 hP1 hP2 s1 s2 sz sT sI hn hz n 0 _ H H [] rfl (Nat.zero_le _) I2 hS rfl (fun j _ _ hj => absurd hj (Nat.not_lt_zero _)) hf ?_ ⟨fun _ _ _ q => q⟩ hR⟩
  exact zst_keep D1 D2 hst s1 s2 sz sT sI oth fun o _ => ⟨_, Heap.get?_update_self _ e2 rfl⟩
end
end DL
set_option Elab.async false
set_option linter.all false
set_option maxRecDepth 100000
set_option maxHeartbeats 2000000
namespace DL
open PySem PySem.Spec PyProof.Rows L2
theorem zapart_sep {z TI TO i1 i2 a b : Addr} (D : ZipApart z TI TO i1 i2 a b) : ZipSep2 z TI TO i1 i2 [i1, a] [i2, b] where
  TIz := D.TIz
  TOz := D.TOz
  TITO := D.TITO
  TIi1 := D.TIi1
  mem1 := by simp
  zf1 := by simp [D.i1z.symm, D.l1z.symm]
  Tf1 := by simp [D.TOi1, D.l1TO.symm]
  TIi2 := D.TIi2
  mem2 := by simp
  zf2 := by simp [D.i2z.symm, D.l2z.symm]
  Tf2 := by simp [D.TOi2, D.l2TO.symm]
  sep1_2 := by simp [D.i12, D.l2i1.symm]
  sep2_1 := by simp [D.i12.symm, D.l1i2.symm]
theorem vals_get' : ∀ {xs : List V} {us : List Value} {i : Nat} {u : Value}, Vals xs us → us[i]? = some u → ∃ x, xs[i]? = some x ∧ RelV x u
  | [], _, i, u, .nil, e => by simp at e
  | _ :: _, _, 0, u, .cons h _, e => by simp at e; subst e; exact ⟨_, rfl, h⟩
  | _ :: _, _, i + 1, u, .cons _ h, e => by
    obtain ⟨x, e1, r⟩ := vals_get' (i := i) (u := u) h (by simpa using e)
    exact ⟨x, by simpa using e1, r⟩
section
variable {X : Cx} {pins : List (Addr × Obj)} {σ : L2.St} {H : Hp} {s : Shared} {E : Value → Shared → Prop} {xs ys : List V} {a b : Addr}
theorem list_zip_tail {h' : Heap} {Q : Value → Shared → Prop} {its its2 : List Value} {P1 P2 : Nat → Value → Prop} {St1 St2 : Nat → Heap → Prop} {n1 n2 : Nat} (hh : X.A.handled = none) (I : Inv X pins σ H s) (la : a < s.heap.objs.size) (lb : b < s.heap.objs.size)
    (hz : IsZip h' (s.heap.objs.size + 4) (s.heap.objs.size + 2) (s.heap.objs.size + 3) .none) (hTI : IsPair h' (s.heap.objs.size + 2) (.ref s.heap.objs.size) (.ref (s.heap.objs.size + 1))) (hTO : IsPair h' (s.heap.objs.size + 3) .none .none)
    (hsz : h'.objs.size = s.heap.objs.size + 5) (hk : ∀ c o, s.heap.get? c = some o → h'.get? c = some o)
    (D1 : Draws X.prog X.w X.A.in1.in1.in1 s.heap.objs.size [s.heap.objs.size, a] n1 P1 St1) (D2 : Draws X.prog X.w X.A.in1.in1.in1 (s.heap.objs.size + 1) [s.heap.objs.size + 1, b] n2 P2 St2) (st1 : St1 0 h') (st2 : St2 0 h')
    (hP1 : ∀ i x, P1 i x → ∃ v, xs[i]? = some v ∧ RelV v x) (hP2 : ∀ i x, P2 i x → ∃ v, ys[i]? = some v ∧ RelV v x) (hn1 : n1 = xs.length) (hn2 : n2 = ys.length) (hsz1 : xs.length ≤ sizeLine)
    (hQ : ∀ s' H' S0 acc, Inv X pins σ H' s' → H S0 = none → H' S0 = some (.lst acc) → acc.length = min xs.length ys.length → PairsAt xs ys H' acc → (∀ c o, H c = some o → H' c = some o) → Q (.ref S0) s') :
    wpAny (model X.prog X.w) X.A (call (.type "list") [.ref (s.heap.objs.size + 4)]) Q E { s with heap := h' } := by
  have I2 : Inv X pins σ H { s with heap := h' } := I.kept (t' := s.toks) hk
  refine callType_codes (Q₁ := fun obj s₁ => obj = .ref h'.objs.size ∧ s₁ = { s with heap := h'.push { cls := .type "list", data := .seq #[] } }) F.called_list (F.typeCall_list_1 _) F.entry_list_init (code_list_new _ ⟨rfl, rfl⟩) fun obj s₁ h₁ => ?_
  obtain ⟨rfl, rfl⟩ := h₁
  have hS : (h'.push { cls := .type "list", data := .seq #[] }).get? h'.objs.size = some { cls := .type "list", data := .seq #[] } := Heap.get?_push_size _ rfl
  refine ⟨⟨_, hS, rfl⟩, F.args_list_init_2 _ _, ?_⟩
  have I3 : Inv X pins σ (upd H h'.objs.size (.lst [])) { s with heap := h'.push { cls := .type "list", data := .seq #[] } } := I2.lnew (its := []) (t' := s.toks) .nil (by show 0 ≤ sizeLine; decide)
  show wpAny _ X.A.in1.in1 (do let old ← Builtin.List.listItems (.ref h'.objs.size); Builtin.List.listUpdate (.ref h'.objs.size) (fun _ => #[]); letGo old.toList.reverse; Builtin.List.listExtendWith (.ref h'.objs.size) (.ref (s.heap.objs.size + 4)) .none) _ _ _
  refine wpAny_bind ?_
  unfold Builtin.List.listItems
  refine wpAny_bind (wpAny_seqItems hS rfl (wpAny_pure ?_))
  show wpAny _ X.A.in1.in1 (updateSeq h'.objs.size (fun _ => #[]) >>= fun _ => letGo (#[] : Array Value).toList.reverse >>= fun _ => Builtin.List.listExtendWith (.ref h'.objs.size) (.ref (s.heap.objs.size + 4)) .none) _ _ _
  refine wpAny_bind (wpAny_updateSeq hS rfl ?_)
  refine wpAny_bind (wpAny_letGo ?_)
  have I4 : Inv X pins σ (upd (upd H h'.objs.size (.lst [])) h'.objs.size (.lst [])) { s with heap := (h'.push { cls := .type "list", data := .seq #[] }).update h'.objs.size (Obj.mapSeq (fun _ => (#[] : Array Value))) } :=
    I3.lset (its := []) (its' := []) (f := fun _ => #[]) (t' := s.toks) upd_same hS (by simp) .nil (by show 0 ≤ sizeLine; decide)
  have eu : upd (upd H h'.objs.size (.lst [])) h'.objs.size (.lst []) = upd H h'.objs.size (.lst []) := by
    funext c
    by_cases q : c = h'.objs.size
    · subst q; rw [upd_same, upd_same]
    · rw [upd_ne q]
  rw [eu] at I4
  have up : ∀ c o, h'.get? c = some o → ((h'.push { cls := .type "list", data := .seq #[] }).update h'.objs.size (Obj.mapSeq (fun _ => (#[] : Array Value)))).get? c = some o := fun c o e =>
    (Heap.get?_update_other _ _ (Ne.symm (Nat.ne_of_lt (Heap.lt_size e)))).trans (Heap.get?_push_of_some _ e)
  have D := PySem.W.ktu_apart s.heap.objs.size a b la lb
  have S := zapart_sep D
  have nS : ∀ c, c < h'.objs.size → h'.objs.size ≠ c := fun c h => Nat.ne_of_gt h
  have g1 : h'.objs.size ∉ [s.heap.objs.size, a] := by
    intro q
    rcases List.mem_cons.mp q with q | q
    · rw [hsz] at q; exact absurd q (by show ¬ (s.heap.objs.size + 5 = s.heap.objs.size); omega)
    · have q := List.mem_singleton.mp q
      rw [hsz] at q
      have la' : a < s.heap.objs.size := la
      rw [← q] at la'
      exact Nat.lt_irrefl _ (Nat.lt_of_le_of_lt (Nat.le_add_right s.heap.objs.size 5) la')
  have g2 : h'.objs.size ∉ [s.heap.objs.size + 1, b] := by
    intro q
    rcases List.mem_cons.mp q with q | q
    · rw [hsz] at q; exact absurd q (by show ¬ (s.heap.objs.size + 5 = s.heap.objs.size + 1); omega)
    · have q := List.mem_singleton.mp q
      rw [hsz] at q
      have lb' : b < s.heap.objs.size := lb
      rw [← q] at lb'
      exact Nat.lt_irrefl _ (Nat.lt_of_le_of_lt (Nat.le_add_right s.heap.objs.size 5) lb')
  have g3 : h'.objs.size ≠ s.heap.objs.size + 4 := by rw [hsz]; omega
  have g4 : h'.objs.size ≠ s.heap.objs.size + 3 := by rw [hsz]; omega
  have g5 : h'.objs.size ≠ s.heap.objs.size + 2 := by rw [hsz]; omega
  have g6 : min n1 n2 ≤ sizeLine := by rw [hn1]; exact Nat.le_trans (Nat.min_le_left ..) hsz1
  refine zip_extend (X := X) (A := X.A.in1) (R := wants (fun r s₂ => r = Value.none ∧ Q (Value.ref h'.objs.size) s₂) E) (n := min n1 n2) (xs := xs) (ys := ys) S D1 D2 hP1 hP2 g1 g2 g3 g4 g5 rfl g6 I4 upd_same (fun c hc => ?_) ⟨up _ _ hTI, ⟨_, _, up _ _ hTO⟩, D1.frame _ _ _ st1 fun b _ o e => up b o e, D2.frame _ _ _ st2 fun b _ o e => up b o e, .inl (up _ _ hz)⟩ (up _ _ hz) fun s' H' acc' I' hS' hl' hp' hg' => ?_
  · have e' : c = s.heap.objs.size + 4 ∨ c = s.heap.objs.size + 3 ∨ c = s.heap.objs.size ∨ c = s.heap.objs.size + 1 := by simpa using hc
    have hle : s.heap.objs.size ≤ c := by rcases e' with q | q | q | q <;> (rw [q]; omega)
    have hne : c ≠ h'.objs.size := by
      rw [hsz]
      rcases e' with q | q | q | q <;> rw [q]
      · exact fun z => absurd (show (s.heap.objs.size + 4 : Nat) = s.heap.objs.size + 5 from z) (by omega)
      · exact fun z => absurd (show (s.heap.objs.size + 3 : Nat) = s.heap.objs.size + 5 from z) (by omega)
      · exact fun z => absurd (show (s.heap.objs.size : Nat) = s.heap.objs.size + 5 from z) (by omega)
      · exact fun z => absurd (show (s.heap.objs.size + 1 : Nat) = s.heap.objs.size + 5 from z) (by omega)
    exact I.fpOk hle ((upd_ne hne).trans (I.hok.fresh hle))
  · have hne : ∀ c o, H c = some o → c ≠ h'.objs.size := fun c o e => by
      have hl : c < s.heap.objs.size := I.hok.lt e
      rw [hsz]
      exact Nat.ne_of_lt (Nat.lt_of_lt_of_le hl (Nat.le_add_right _ _))
    exact ⟨rfl, hQ s' H' h'.objs.size acc' I' (I.hok.fresh (by rw [hsz]; exact Nat.le_add_right _ _)) hS' (by rw [hl', hn1, hn2]) hp' fun c o e => hg'.old c o (hne c o e) ((upd_ne (hne c o e)).trans e)⟩
theorem call_list_zip {Q : Value → Shared → Prop} (hh : X.A.handled = none) (I : Inv X pins σ H s) (h : (SqL X.K H a xs ∧ SqL X.K H b ys) ∨ (SqT X.K H a xs ∧ SqT X.K H b ys))
    (hQ : ∀ s' H' S0 acc, Inv X pins σ H' s' → H S0 = none → H' S0 = some (.lst acc) → acc.length = min xs.length ys.length → PairsAt xs ys H' acc → (∀ c o, H c = some o → H' c = some o) → Q (.ref S0) s') :
    wpAny (model X.prog X.w) X.A (call (.type "zip") [.ref a, .ref b]) (fun v s1 => wpAny (model X.prog X.w) X.A (call (.type "list") [v]) Q E s1) E s := by
  have hh1 : X.A.in1.in1.in1.handled = none := hh
  rcases h with ⟨hx, hy⟩ | ⟨hx, hy⟩
  · obtain ⟨its, rv, p1, hz1⟩ := I.list hx
    obtain ⟨its2, rv2, p2, hz2⟩ := I.list hy
    have la : a < s.heap.objs.size := p1.lt
    have lb : b < s.heap.objs.size := p2.lt
    refine call_zip_2 p1.isList p2.isList fun h' hz hTI hTO h1 h2 hsz hk => ?_
    refine list_zip_tail (its := its) (its2 := its2) hh I la lb hz hTI hTO hsz hk (Draws.list hh1 s.heap.objs.size a (Nat.ne_of_lt la) its.toArray) (Draws.list hh1 (s.heap.objs.size + 1) b (Nat.ne_of_lt (Nat.lt_succ_of_lt lb)) its2.toArray)
      ⟨h1, p1.isList.at fun o e => hk _ o e⟩ ⟨h2, p2.isList.at fun o e => hk _ o e⟩ (fun i x e => ?_) (fun i x e => ?_) (by rw [List.size_toArray]; exact rv.length.symm) (by rw [List.size_toArray]; exact rv2.length.symm) hz1 hQ
    · exact vals_get' rv (by simpa using e)
    · exact vals_get' rv2 (by simpa using e)
  · obtain ⟨its, rv, p1, hz1⟩ := I.tuple hx
    obtain ⟨its2, rv2, p2, hz2⟩ := I.tuple hy
    have q1 : s.heap.IsTuple a its.toArray := p1
    have q2 : s.heap.IsTuple b its2.toArray := p2
    obtain ⟨o1, ho1, _⟩ := id q1
    obtain ⟨o2, ho2, _⟩ := id q2
    have la : a < s.heap.objs.size := Heap.lt_size ho1
    have lb : b < s.heap.objs.size := Heap.lt_size ho2
    refine RZ.call_zipT q1 q2 fun h' hz hTI hTO h1 h2 hsz hk => ?_
    refine list_zip_tail (its := its) (its2 := its2) hh I la lb hz hTI hTO hsz hk (Draws.tuple hh1 s.heap.objs.size a (Nat.ne_of_lt la) its.toArray) (Draws.tuple hh1 (s.heap.objs.size + 1) b (Nat.ne_of_lt (Nat.lt_succ_of_lt lb)) its2.toArray)
      ⟨h1, q1.at fun o e => hk _ o e⟩ ⟨h2, q2.at fun o e => hk _ o e⟩ (fun i x e => ?_) (fun i x e => ?_) (by rw [List.size_toArray]; exact rv.length.symm) (by rw [List.size_toArray]; exact rv2.length.symm) hz1 hQ
    · exact vals_get' rv (by simpa using e)
    · exact vals_get' rv2 (by simpa using e)
end
def isLW : Wd → Bool
  | .ref _ => true
  | .rol _ => true
  | _ => false
/-- list(zip(a, b)), both lists or both tuples -/
def lzO : OpN := fun ws m => match ws with
  | [a, b] => if (isLW a == isLW b) = true then (match seqOf m a, seqOf m b with
    | some xs, some ys => some (.ref m.cells.length, m.push (.lst ((xs.zip ys).map fun p => mkTup [p.1, p.2])))
    | _, _ => none) else none
  | _ => none
section
variable {K : PySem.W.Frag} {W : L2.WX} {ι : List Addr} {H : Hp} {σ : L2.St} {m : Mm} {X : Cx}
theorem seqOf_kind {w : Wd} {ws : List Wd} {v : V} (mo : MemOk K ι m H) (e : seqOf m w = some ws) (r : RelW K ι H w v) : ∃ a vs, v = .ref a ∧ (if isLW w = true then SqL K H a vs else SqT K H a vs) ∧ RelWs K ι H ws vs := by
  cases w with
  | d x =>
    obtain ⟨a, vs, h1, h2, h3⟩ := tupOf_ok (w := .d x) (ws := ws) (by cases x <;> first | exact e | cases e) r
    exact ⟨a, vs, h1, h2, h3⟩
  | ref n =>
    cases r with
    | ref hι =>
      have e' : (match m.cells[n]? with | some (.lst xs) => some xs | _ => none) = some ws := e
      cases qc : m.cells[n]? with
      | none => rw [qc] at e'; cases e'
      | some c =>
        rw [qc] at e'
        cases c with
        | lst xs =>
          cases e'
          obtain ⟨vs, h1, h2⟩ := mo.cell n _ _ hι qc
          exact ⟨_, vs, rfl, .inl (.inl h1), h2⟩
        | dct _ => cases e'
        | ins _ _ => cases e'
        | tab _ _ => cases e'
  | tup xs =>
    obtain ⟨a, vs, h1, h2, h3⟩ := tupOf_ok (w := .tup xs) (ws := ws) e r
    exact ⟨a, vs, h1, h2, h3⟩
  | rol xs =>
    cases e
    cases r with
    | rol hr hs => exact ⟨_, _, rfl, hr.sqL, hs⟩
  | v x => cases e
theorem pairs_ok : ∀ {xs ys : List Wd} {vs us acc : List V}, RelWs K ι H xs vs → RelWs K ι H ys us → acc.length = min vs.length us.length → PairsAt vs us H acc → RelWs K ι H ((xs.zip ys).map fun p => mkTup [p.1, p.2]) acc
  | _, _, _, _, acc, .nil, _, hl, _ => by
    have : acc = [] := List.eq_nil_of_length_eq_zero (by rw [hl]; simp [List.length])
    subst this; exact .nil
  | _, _, _, _, acc, .cons _ _, .nil, hl, _ => by
    have : acc = [] := List.eq_nil_of_length_eq_zero (by rw [hl]; simp [List.length])
    subst this; exact .nil
  | _, _, _, _, [], .cons _ _, .cons _ _, hl, _ => by simp at hl
  | _, _, _, _, c :: acc, .cons r1 rr, .cons r2 rr2, hl, hp => by
    obtain ⟨T, h1, h2⟩ := hp 0 _ _ (by simp) rfl rfl
    have hc : c = .ref T := by simpa using h1
    subst hc
    refine .cons (mkTup_ok (.of h2) (.cons r1 (.cons r2 .nil))) (pairs_ok rr rr2 (by simp at hl; omega) fun j x y hj ex ey => ?_)
    obtain ⟨T', q1, q2⟩ := hp (j + 1) x y (by simp; omega) (by simpa using ex) (by simpa using ey)
    exact ⟨T', by simpa using q1, q2⟩
theorem de_lz {a b : Expr} {fa : Em (List Wd)} {p p2 pos pos2 : Pos} (hc : X.calm = true) (hg : Gl X "list") (hm : X.mg "list" = none) (hg2 : Gl X "zip") (hm2 : X.mg "zip" = none) (ha : PA X [a, b] (tA X.K W fa))
    (hs : starEach [a, b] X.env = (false, eval a X.env) :: starEach [b] X.env := by rfl) (hpl : (backTo pos2 (starEach [b] X.env)).any (·.1) = false := by rfl)
    (na : starEach [.Call (.Name "zip" p2) [a, b] [] pos2] X.env = (false, eval (.Call (.Name "zip" p2) [a, b] [] pos2) X.env) :: starEach [] X.env := by rfl) :
    PE X (.Call (.Name "list" p) [.Call (.Name "zip" p2) [a, b] [] pos2] [] pos) (tE X.K W (eN lzO fa)) := by
  refine ⟨fun pins s σ H Q I h => ?_⟩
  obtain ⟨ι, env, m, eo, mo, pp⟩ := h
  have h2 : tA X.K W fa σ H (fun vs H1 => ∃ ι1 m1 ws, MemOk X.K ι1 m1 H1 ∧ RelWs X.K ι1 H1 ws vs ∧ Post X.K W0 (RelW X.K) ι1 H1 σ Q (Rs.of (lzO ws m1))) :=
    Post.bind eo mo pp fun ι1 H1 ws xs m1 st1 mo1 eo1 ra p1 => ⟨ι1, m1, ws, mo1, ra, p1.w0⟩
  refine Call_ (ld_blt I hg hm boot_list (callWith_type1 (args_cons (Call_ (ld_blt I hg2 hm2 PyProof.Rows.boot_zip (PyProof.Rows.callWith_type1 (thn (ha.run pos2 pins s σ H _ I h2) fun us s1 ⟨vs, H1, I1, r1, q1⟩ => ?_) hs hpl))) na) na))
  obtain ⟨ι1, m1, ws, mo1, ra, p1⟩ := q1
  unfold lzO at p1
  split at p1
  · rename_i wa wb
    by_cases hk : (isLW wa == isLW wb) = true
    · rw [if_pos hk] at p1
      have hk' : isLW wa = isLW wb := by simpa using hk
      split at p1
      · rename_i xs ys e1 e2
        cases ra with
        | cons ra rr =>
          cases rr with
          | cons rb rr =>
            cases rr
            obtain ⟨aa, va, rfl, ha1, ha2⟩ := seqOf_kind mo1 e1 ra
            obtain ⟨bb, vb, rfl, hb1, hb2⟩ := seqOf_kind mo1 e2 rb
            cases r1 with
            | cons r rr =>
              cases rr with
              | cons r' rr =>
                cases rr
                cases r
                cases r'
                have hseq : (SqL X.K H1 aa va ∧ SqL X.K H1 bb vb) ∨ (SqT X.K H1 aa va ∧ SqT X.K H1 bb vb) := by
                  cases qa : isLW wa with
                  | true =>
                    have qb : isLW wb = true := hk'.symm.trans qa
                    rw [qa] at ha1; rw [qb] at hb1
                    exact .inl ⟨ha1, hb1⟩
                  | false =>
                    have qb : isLW wb = false := hk'.symm.trans qa
                    rw [qa] at ha1; rw [qb] at hb1
                    exact .inr ⟨ha1, hb1⟩
                refine thn (call_list_zip (Q := EP X pins σ Q) (E := X.xe) (I1.ok.hd hc) I1 hseq fun s' H' S0 acc I' hn hS hl hp hg => ?_) fun v s1 h => args_nil h
                have st : Stp ι1 H1 ι1 H' := ⟨List.prefix_refl _, fun c hc1 hc2 => absurd hc1 hc2, fun c o e _ => hg c o e⟩
                have hsame : ∀ c ∈ ι1, H' c = H1 c := fun c hc1 => by
                  cases q : H1 c with
                  | none => exact absurd q (mo1.apart c hc1).2.2.1
                  | some o => exact hg c o q
                have mo2 := mo1.stay (ι' := ι1) st hsame
                have hnS : S0 ∉ ι1 := mo1.new hn
                have rx' := ha2.step mo1.apart st
                have ry' := hb2.step mo1.apart st
                have rp := pairs_ok rx' ry' hl hp
                have mo3 := mo2.adopt hS hnS rp
                refine ⟨.ref S0, H', I', rfl, p1 (ι1 ++ [S0]) H' (.ref S0) ⟨List.prefix_append _ _, fun c hc1 hc2 => ?_, fun c o e _ => hg c o e⟩ mo3 (.ref ?_)⟩
                · rcases List.mem_append.mp hc1 with q | q
                  · exact absurd q hc2
                  · rw [List.mem_singleton.mp q]; exact hn
                · rw [← mo1.len]; simp
      · exact p1.elim
    · rw [if_neg hk] at p1; exact p1.elim
  · exact p1.elim
end
end DL
set_option Elab.async false
set_option linter.all false
set_option maxRecDepth 100000
set_option maxHeartbeats 2000000
namespace DL
open PySem PySem.Spec PyProof.Rows L2
/-- a def that is known by its denotation -/
def Kn (P : Program) (w : World) (K : PySem.W.Frag) (mg : Str → Option Value) (base : Heap) (k n : Nat) (x : Str) (ps : List Str) (F : Fn) : Prop :=
  ∃ (f : Addr) (fd : FuncData), mg x = some (.ref f) ∧ PySem.W.keepIn K (.ref f) = true ∧ Binds K fd ps [] ∧ FnOk P w K mg base (L2.CX P w) k f fd ps (spD K n F)
theorem Kn.imp {P : Program} {w : World} {K : PySem.W.Frag} {mg : Str → Option Value} {base : Heap} {k n : Nat} {x : Str} {ps : List Str} {F G : Fn} (h : Kn P w K mg base k n x ps F) (i : ∀ ws m, ws.length = n → G ws m = .stuck ∨ F ws m = G ws m) : Kn P w K mg base k n x ps G := by
  obtain ⟨f, fd, h1, h2, h3, h4⟩ := h
  exact ⟨f, fd, h1, h2, h3, h4.imp fun vs H Q E p => spD_imp i p⟩
theorem Kn.mono {P : Program} {w : World} {K : PySem.W.Frag} {mg : Str → Option Value} {base : Heap} {j k n : Nat} {x : Str} {ps : List Str} {F : Fn} (h : Kn P w K mg base j n x ps F) (hk : j ≤ k) : Kn P w K mg base k n x ps F := by
  obtain ⟨f, fd, h1, h2, h3, h4⟩ := h
  exact ⟨f, fd, h1, h2, h3, h4.mono hk⟩
/-- a def of the row, where it stands -/
def Df (K : PySem.W.Frag) (mg : Str → Option Value) (x : Str) (st : Stmt) : Prop := ∃ (f : Addr) (fd : FuncData), mg x = some (.ref f) ∧ FunD K x x (defArgs st) (defBody st) (defScope st) [] [] f fd
section
variable {X : Cx} {W : L2.WX}
theorem de_callK {j k n : Nat} {ps : List Str} {F : Fn} {x : Str} {p pos : Pos} {e : Expr} {es : List Expr} {fa : Em (List Wd)} (c : Kn X.prog X.w X.K X.mg X.base k n x ps F) (tk : Takes X W) (hr : Room j X.A) (hk : k ≤ j) (hg : Gl X x)
    (ha : PA X (e :: es) (tA X.K W fa)) (hdb : (x == ("__debug__" : Str)) = false := by decide) (he : starEach (e :: es) X.env = (false, eval e X.env) :: starEach es X.env := by rfl) (hpl : (backTo pos (starEach es X.env)).any (·.1) = false := by rfl) :
    PE X (.Call (.Name x p) (e :: es) [] pos) (tE X.K W (eCall n F fa)) := by
  obtain ⟨f, fd, h1, h2, h3, h4⟩ := c
  exact de_call tk h4 (hr.mono hk) hg h1 h2 h3 ha hdb he hpl
theorem k_fn {P : Program} {w : World} {K : PySem.W.Frag} {mg : Str → Option Value} {base : Heap} {x : Str} {st : Stmt} {N ps : List Str} {k n j : Nat} {b : Sm} (D : Df K mg x st) (S : FnScope N ps (defScope st)) (hN : N.length = n) (hj : ps.length = j)
    (hbd : ∀ (f : Addr) (fd : FuncData), FunD K x x (defArgs st) (defBody st) (defScope st) [] [] f fd → Binds K fd ps [])
    (hb : ∀ (f : Addr) (cdv : Value) (A : Around) (outer : List PySem.Env) (s : Shared) (H : Hp) (E : XK), Room k (A.deeper (envOfC x (defScope st) s.heap.objs.size f cdv)) → Takes (cxOf (L2.CX P w) P w K mg base N x (defScope st) f cdv A outer s H E) (fun cls d _ H => E cls d H) →
      PassesOwn (model P w) (A.deeper (envOfC x (defScope st) s.heap.objs.size f cdv)) (envOfC x (defScope st) s.heap.objs.size f cdv) (cxOf (L2.CX P w) P w K mg base N x (defScope st) f cdv A outer s H E).xe →
      PSs (cxOf (L2.CX P w) P w K mg base N x (defScope st) f cdv A outer s H E) (defBody st) (tS K (fun cls d _ H => E cls d H) b)) : Kn P w K mg base (k + 1) j x ps (runF n b) := by
  obtain ⟨f, fd, h1, F⟩ := D
  exact ⟨f, fd, h1, F.kp, hbd f fd F, d_fn F S hN hj fun cdv A outer s H E hr tk hp => hb f cdv A outer s H E hr tk hp⟩
end
theorem bt_len : bootBuiltins "len" = some (.builtin "len") := by decide +kernel
theorem bt_abs : bootBuiltins "abs" = some (.builtin "abs") := by decide +kernel
theorem bt_all : bootBuiltins "all" = some (.builtin "all") := by decide +kernel
theorem bt_any : bootBuiltins "any" = some (.builtin "any") := by decide +kernel
theorem bt_sorted : bootBuiltins "sorted" = some (.builtin "sorted") := by decide +kernel
theorem bt_min : bootBuiltins "min" = some (.builtin "min") := by decide +kernel
theorem bt_max : bootBuiltins "max" = some (.builtin "max") := by decide +kernel
theorem bt_sum : bootBuiltins "sum" = some (.builtin "sum") := by decide +kernel
theorem bt_isi : bootBuiltins "isinstance" = some (.builtin "isinstance") := by decide +kernel
theorem bt_int : bootBuiltins "int" = some (.type "int") := by decide +kernel
theorem bt_str : bootBuiltins "str" = some (.type "str") := by decide +kernel
theorem bt_bool : bootBuiltins "bool" = some (.type "bool") := by decide +kernel
theorem bt_list : bootBuiltins "list" = some (.type "list") := by decide +kernel
theorem bt_tuple : bootBuiltins "tuple" = some (.type "tuple") := by decide +kernel
theorem bt_dict : bootBuiltins "dict" = some (.type "dict") := by decide +kernel
end DL
namespace DL
open PySem PySem.Spec PyProof.Rows L2
theorem dt_pw {X : Cx} {e : Expr} {t : TT} (h : PW X e t) : PT X e t := h.pt
end DL
set_option Elab.async false
set_option linter.all false
set_option maxRecDepth 100000
set_option maxHeartbeats 2000000
namespace DL
open PySem PySem.Spec PyProof.Rows L2
/-- the law's walk: errors may fly inside, none leaves -/
theorem walk_D {l : PySem.W.OpenLaw} {n k : Nat} {q : Program} {loose : List Str} {XP : (Str → Option Value) → Heap → Prop} {YP : World → Heap → Prop} {d : DefRec} {x : Str} {F : Fn}
    (hn : l.most = some n) (hn2 : n ≤ sizeLine) (hdf : d.params.defaults = []) (hr : Room k callerA)
    (hF : ∀ (w : World) (mg : Str → Option Value) (fa : Addr) (h : Heap), YP w h → h.Ns mainGlobals mg → mg d.name = some (.ref fa) → ∃ (K : PySem.W.Frag) (fd : FuncData), K.In h ∧ (∀ (s : Shared) (u : Value), BindsTo s fd ⟨[u], []⟩ [(x, u)]) ∧
        ∀ base : Heap, K.In base → base.Ns mainGlobals mg → FnOk l.prog w K mg base (L2.CX l.prog w) k fa fd [x] (spD K 1 F))
    (hP : ∀ ns : List Int, ns.length ≤ n → ∃ m', F [scriptW ns] ⟨[], []⟩ = .ok (.d (.bool true)) m') : PySem.W.WalkO q loose XP YP l.row.toRowW d [] (fun f vs => PySem.call f vs) := by
  refine Att.attach_call hn hdf fun w s₀ s₁ mg mb fa o pm cd doc a vs ns G Y ho hd hcd hmg hobj hints hlen hg => ?_
  obtain ⟨K, fd, KX, hb, hFn⟩ := hF w mg fa _ Y G.T.g hmg
  refine law_call KX G.T.g G.T.b G.T.builtins G.T.nolimit hg hobj hints (Nat.le_trans hlen hn2) hr hFn hb (fun H hO hS => ?_) fun H e s' hh => ?_
  · obtain ⟨m', e⟩ := hP ns hlen
    exact law_end hO hS e
  · obtain ⟨_, _, _, _, _, _, _, _, _, _, _, _, z⟩ := hh
    exact z.elim
end DL
set_option Elab.async false
set_option linter.all false
set_option maxRecDepth 100000
set_option maxHeartbeats 2000000
namespace DL
open PySem PySem.Spec PyProof.Rows L2
/-- a method that says super(): its context -/
def mcx (P : Program) (w : World) (K : PySem.W.Frag) (mg : Str → Option Value) (base : Heap) (N : List Str) (qual : Str) (scope : Scope) (f : Addr) (cd : Value) (cc : Addr) (A : Around) (outer : List PySem.Env) (s : Shared) (H : Hp) (E : XK) : Cx where
  prog := P
  w := w
  K := K
  mg := mg
  base := base
  A := A.deeper (PySem.W.ksEnv qual scope s.heap.objs.size f cd cc)
  N := N
  s_0 := s
  H_0 := H
  env := PySem.W.ksEnv qual scope s.heap.objs.size f cd cc
  outer := outer
  stack := PySem.W.ksEnv qual scope s.heap.objs.size f cd cc :: outer
  ex := []
  fn := fun _ => false
  calm := true
  pn := []
  xe := fun e s' => wpAny (model P w) (A.deeper (PySem.W.ksEnv qual scope s.heap.objs.size f cd cc)) (leaving (PySem.W.ksEnv qual scope s.heap.objs.size f cd cc) e) (fun _ s'' => L2.CX P w outer H s E e s'') (fun e' s'' => L2.CX P w outer H s E e' s'') s'
section
variable {P : Program} {w : World} {K : PySem.W.Frag} {mg : Str → Option Value} {base : Heap} {ps : List Str} {qual : Str} {scope : Scope} {f cc D : Addr} {cd : Value} {A : Around} {outer : List PySem.Env} {s : Shared} {H : Hp} {E : XK} {us : List Value} {vs : List V}
theorem m_start {h₁ : Heap} {tk : Nat} {cl : Value} {cld : Option Addr} {csl : Array (Option Value)} (hk : scope.kind = .function) (hnd : ps.Nodup) (hloc : ∀ x ∈ ps, scope.names.lookup x = some .local) (hcell : ∀ y ∈ scope.names, y.2 ≠ .cell) (hfree : ∀ y, scope.names.lookup y = some .free → y = "__class__")
    (hcc : K.lookup cc = some ⟨cl, cld, .cell (some (.ref D)), csl⟩) (hd : A.handled = none) (e0 : Env0 P w K mg base A outer s H) (hl : vs.length = ps.length) (r : Vals vs us)
    (hns : h₁.Ns s.heap.objs.size fun x => (ps.zip us).reverse.lookup x) (kp : ∀ b o, s.heap.get? b = some o → h₁.get? b = some o) :
    Inv (mcx P w K mg base ps qual scope f cd cc A outer s H E) [] (L2.start ps vs) H { s with heap := h₁, toks := tk } := by
  have KX : K.In s.heap := e0.mod.kin.keeps fun b o e => (e0.bs b o e).1
  have hcs := KX _ _ hcc
  have hcn : H cc = none := by
    have hb := e0.mod.kin _ _ hcc
    exact (e0.bs _ _ hb).2
  have cl1 : ∀ {x : Str} {c : Addr}, ([("__class__", cc)] : List (Str × Addr)).lookup x = some c → x = ("__class__" : Str) ∧ c = cc := fun {x c} e => by
    by_cases h : x = ("__class__" : Str)
    · subst h
      have : ([("__class__", cc)] : List (Str × Addr)).lookup ("__class__" : Str) = some cc := rfl
      rw [this] at e; cases e; exact ⟨rfl, rfl⟩
    · have hb : (x == ("__class__" : Str)) = false := by simpa using h
      have : ([("__class__", cc)] : List (Str × Addr)).lookup x = none := by simp [List.lookup, hb]
      rw [this] at e; cases e
  have noA : ∀ b : Addr, b ∉ (mcx P w K mg base ps qual scope f cd cc A outer s H E).ex := fun b z => absurd (show b ∈ ([] : List Addr) from z) (by simp)
  refine ⟨⟨e0.mod, hk, rfl, rfl, Nat.le_refl _, fun x y c h1 h2 => ?_, fun x hx => ?_, fun y c z _ => ?_, fun _ => hd, Around.frames_deeper e0.frames, .inr ⟨rfl, rfl⟩, fun b z => absurd z (noA b), e0.bs, e0.bsz, fun b _ _ => noA b, fun b z => absurd z (noA b), e0.funs, e0.frf⟩,
    rfl, e0.bare, Un.kept kp, ⟨_, hns, fun i y v h1 h2 h3 => ?_⟩, fun y c h => ?_, e0.hok.fresh (Nat.le_refl _), fun y c h => ?_, fun p hp => absurd (show p ∈ ([] : List (Addr × Obj)) from hp) (by simp), e0.hok.kept kp, ?_⟩
  · exact (cl1 h1).1.trans (cl1 h2).1.symm
  · have hx : scope.names.lookup x = some .cell ∨ scope.names.lookup x = some .free := hx
    rcases hx with hx | hx
    · exact absurd rfl (hcell _ (PySem.mem_of_lookup hx))
    · exact ⟨cc, by rw [hfree x hx]; rfl⟩
  · have z : false = true := z
    cases z
  · have h1 : ps[i]? = some y := h1
    have hi : i < vs.length := by rw [hl]; exact (List.getElem?_eq_some_iff.mp h1).1
    have ha : vs[i]? = some v := by
      unfold L2.start at h2
      rw [List.getElem?_append_left (by simpa using hi), List.getElem?_map] at h2
      cases e : vs[i]? with
      | none => rw [e] at h2; cases h2
      | some a => rw [e] at h2; cases h2; rfl
    obtain ⟨u, hu, rv⟩ := r.get ha
    exact ⟨u, rv, .inl ⟨hloc y (List.mem_of_getElem? h1), NdefX.zip_look hnd h1 hu⟩⟩
  · obtain ⟨_, rfl⟩ := cl1 h
    exact ⟨_, _, kp _ _ hcs, rfl⟩
  · obtain ⟨_, rfl⟩ := cl1 h
    exact hcn
  · show (L2.start ps vs).length = ps.length
    unfold L2.start
    rw [List.length_append, List.length_map, List.length_replicate]; omega
end
/-- what the written part says of an own error's class and of its __init__ that says super() -/
structure ErrC (prog : Program) (K : PySem.W.Frag) (mg : Str → Option Value) (C fI cc cda : Addr) (fd : FuncData) : Prop where
  ex : OexC K C
  fn : ∃ oc od osl, K.lookup fI = some ⟨oc, od, .func fd, osl⟩
  code : ∃ ccl cdd vs ccs file tf, K.lookup cda = some ⟨ccl, cdd, .fields vs, ccs⟩ ∧ vs[2]? = some (.str file tf) ∧ ((prog.main.file : Str) == file) = true
  cell : ∃ cl cld csl, K.lookup cc = some ⟨cl, cld, .cell (some (.ref C)), csl⟩
  sub : PySem.W.mroIn K C (.ref C) = some true
  sup : mg "super" = none
  init : PySem.W.ks_superIn K C C "__init__" = some (some (.builtin "ValueError.__init__"))
  opq : PySem.W.nsIn K cStatics "thirdparty.any" = some none
  ve : PySem.W.subIn K (.ref C) (.type "ValueError") = some true
  top : (prog.main.scope.names.lookup ("super" : Str)).isSome = false
section
variable {X : Cx} {pins : List (Addr × Obj)} {σ : L2.St} {H : Hp} {s : Shared} {C fI cc cda a : Addr} {fd : FuncData} {qual : Str} {scope : Scope} {L : Addr} {body : List Stmt} {es : List Expr} {e1 : Expr} {n : Nat}
theorem boot_super : bootBuiltins "super" = some (.type "super") := by decide +kernel
/-- super().__init__(e, ..) -/
theorem super_init {p0 p1 p2 p3 p4 : Pos} {ar : Arg} {t : TA} (T : ErrC X.prog X.K X.mg C fI cc cda fd) (henv : X.env = PySem.W.ksEnv qual scope L fI (.ref cda) cc) (hk : scope.kind = .function)
    (hp : (fd.params.posonlyargs ++ fd.params.args).head? = some ar) (hks : scope.names.lookup ("super" : Str) = some .globalImplicit) (hkc : scope.names.lookup ("__class__" : Str) = some .free) (hka : scope.names.lookup ar.arg = some .local)
    (hN : X.N[0]? = some ar.arg) (I : Inv X pins σ H s) (hσ : σ[0]? = some (some (.ref a))) (ea : H a = some (exo a C none)) (ha : PA X (e1 :: es) t) (ht : t σ H fun vs H1 => H1 = H ∧ vs.length ≤ 1000)
    {pl : Sem Bool} (hc : eval (.Call (.Attribute (.Call (.Name "super" p0) [] [] p1) "__init__" p2) (e1 :: es) [] p3) X.env = (do
      let ov ← attributeBase (.Call (.Name "super" p0) [] [] p1) "__init__" X.env (eval (.Call (.Name "super" p0) [] [] p1) X.env)
      standAt p2.atName
      let (f, first) ← holding [ov] (getMethod ov "__init__" pl)
      callWith p3 f first (backTo p3 (starEach (e1 :: es) X.env)) []) := by rfl)
    (he : starEach (e1 :: es) X.env = (false, eval e1 X.env) :: starEach es X.env := by rfl) (hpl : (backTo p3 (starEach es X.env)).any (·.1) = false := by rfl) (hsw : swapsWith (.Call (.Attribute (.Call (.Name "super" p0) [] [] p1) "__init__" p2) (e1 :: es) [] p3) none p4.line X.env = pure false := by rfl) :
    _root_.PySem.wpAt (model X.prog X.w) X.A (.func body X.env) (exec (.Expr (.Call (.Attribute (.Call (.Name "super" p0) [] [] p1) "__init__" p2) (e1 :: es) [] p3) p4) X.env) (fun f s' => f = .next ∧ Inv X pins σ H s') X.xe s := by
  obtain ⟨oc, od, osl, hf⟩ := T.fn
  obtain ⟨ccl, cdd, cvs, ccs, file, tf, hcode, hvs, hfile⟩ := T.code
  obtain ⟨cl, cld, csl, hcell⟩ := T.cell
  obtain ⟨nm, q, N, bs, bm, sn, sub, ab, col, dd, k0, k1, k2, k3, k5, hC, hbm⟩ := T.ex.cls
  have hcl : PySem.W.clsIn X.K C = some { name := nm, bases := bs, mro := .ref C :: bm, ns := N, qualname := q, hasDict := true, slotNames := sn, subclasses := sub, abstract := ab, collection := col, hasDel := false } := by unfold PySem.W.clsIn; rw [hC] <;> rfl
  have KX := I.kIn
  have hkk : X.env.scope.kind = .function := I.ok.kind
  have hkos : X.env.kindOf "super" = some .globalImplicit := by rw [henv]; exact hks
  have hkoc : X.env.kindOf "__class__" = some .free := by rw [henv]; exact hkc
  have hkoa : X.env.kindOf ar.arg = some .local := by rw [henv]; exact hka
  have hfu : X.env.func = some fI := by rw [henv]
  have hco : X.env.code = .ref cda := by rw [henv]
  have hce : X.env.cells.lookup ("__class__" : Str) = some cc := by rw [henv]; rfl
  obtain ⟨mb, hb1, hb2⟩ := I.mod.blt
  obtain ⟨m, hns, hlo⟩ := I.loc
  obtain ⟨ua, rua, lka⟩ := hlo 0 ar.arg (.ref a) hN hσ (.inl hkoa)
  obtain rfl : ua = Value.ref a := rua
  have hma : m ar.arg = some (.ref a) := by
    rcases lka with h | ⟨h, _⟩
    · exact h.2
    · rw [hkoa] at h; rcases h with h | h <;> cases h
  obtain ⟨t1, hoa⟩ := exo_at I.hok ea
  refine PySem.ks_wpAt_Expr_any ?_ I.quiet hsw
  refine PySem.ks_wpAt_MethodCall ?_ hc
  refine PySem.ks_wpAt_super_base hkos hkoc (by decide) hfu (KX _ _ hf) rfl hp hco (KX _ _ hcode) rfl hvs hfile T.top ?_
  refine PySem.W.ks_loadName_global hkk hkos (PySem.Calls.loadGlobal_builtin (by rw [I.ok.glob]; exact I.mod.glob.keeps I.bk) T.sup (by rw [I.ok.blt]; exact hb1.keeps I.bk) ((hb2 "super" (by decide)).trans boot_super) ⟨rfl, ?_⟩)
  refine PySem.wpAny_loadName_free hkk hkoc hce ⟨_, KX _ _ hcell, rfl⟩ ?_
  refine PySem.wpAny_loadName_local hkk hkoa hns hma ?_
  obtain ⟨hh, g, dr, tk, os⟩ := s
  refine PySem.ks_wpAny_isType_cls (KX _ _ hC) rfl ⟨rfl, ?_⟩
  refine PySem.ks_wpAny_call_super (KX _ _ hC) rfl hoa rfl (fun c z => by cases z) (PySem.W.looks_mroIn KX T.sub) (fun h' hso kp => ?_)
  have I1 : Inv X pins σ H ⟨h', g, dr, tk, os⟩ := I.kept (t' := tk) kp
  have KX1 := I1.kIn
  have hoa1 := kp _ _ hoa
  have IA : PySem.W.InstAt h' a _ C none := ⟨hoa1, rfl, rfl, trivial⟩
  have hI : PySem.W.Looks (model X.prog X.w) h' (isInstance (.ref a) (.type "ValueError")) true := IA.type.andThen (PySem.W.looks_subIn KX1 T.ve)
  have hal : PySem.W.alongIn X.K "__init__" ((((Value.ref C :: bm)).dropWhile (· != .ref C)).drop 1) = some (some (.builtin "ValueError.__init__")) := by
    have h := T.init
    unfold PySem.W.ks_superIn at h
    rw [hcl] at h
    exact h
  have hmr : PySem.W.Looks (model X.prog X.w) h' (mroOf (.ref C)) (Value.ref C :: bm) := fun A Q E s k q => wpAny_bind ((PySem.W.looks_clsIn KX1 hcl) A _ E s k (wpAny_pure q))
  refine PySem.W.kxs_getMethod PySem.W.kxs_ValueError hso (PySem.W.looks_opaque KX1 T.opq) hmr rfl KX1 hal hI (PySem.W.ks_ne KX1 IA hcl) (by decide) ?_
  have hmw : (h'.push (PySem.W.kxs_mw "ValueError.__init__" a)).get? h'.objs.size = some (PySem.W.kxs_mw "ValueError.__init__" a) := Heap.get?_push_at rfl rfl
  have I2 : Inv X pins σ H ⟨h'.push (PySem.W.kxs_mw "ValueError.__init__" a), g, dr, tk + 1, os⟩ := I1.kept (t' := tk + 1) fun b o e => Heap.get?_push_of_some _ e
  have hlt : ∀ {b : Addr} {o : Obj}, h'.get? b = some o → b ≠ h'.objs.size := fun {b o} e => Nat.ne_of_lt (Heap.lt_size e)
  have I3 : Inv X ((h'.objs.size, PySem.W.kxs_mw "ValueError.__init__" a) :: pins) σ H ⟨h'.push (PySem.W.kxs_mw "ValueError.__init__" a), g, dr, tk + 1, os⟩ := I2.pins_of fun q hq => by
    rcases List.mem_cons.mp hq with rfl | hq
    · exact ⟨hmw, I1.hok.fresh (Nat.le_refl _), Nat.ne_of_gt I1.lt, I1.nofs (Nat.le_refl _), fun v z => nomatch z⟩
    · exact I2.pin q (List.mem_append_right _ hq)
  show wpAny _ _ (callWith p3 (Value.ref h'.objs.size) [] (backTo p3 (starEach (e1 :: es) X.env)) []) _ _ _
  rw [he]
  refine PySem.W.kxs_callWith (i := "ValueError.__init__") (x := a) (by show (false || (backTo p3 (starEach es X.env)).any (·.1)) = false; rw [hpl]; rfl) (PySem.Calls.evalArgs_plain ?_)
  have hrun := ha.run p3 _ _ σ H _ I3 ht
  rw [he] at hrun
  refine thn hrun fun us s1 ⟨vs, H1, J, r1, eH, hz⟩ => ?_
  subst eH
  have hu := (J.pin (h'.objs.size, PySem.W.kxs_mw "ValueError.__init__" a) (List.mem_append_right _ (List.mem_cons_self ..))).1
  refine ⟨hu, ?_⟩
  obtain ⟨t2, ho2⟩ := exo_at J.hok ea
  obtain ⟨hp2, g2, d2, tk2, os2⟩ := s1
  have hlen : us.length ≤ sizeLine := by
    rw [← Paired.length r1, sizeLine_eq]
    omega
  refine wpAny_call (codeAny_of_tree ?_)
  show wpAny _ _ (callAny (.ref h'.objs.size) ⟨us, []⟩) _ _ _
  simp only [callAny]
  refine wpAny_bind (wpAny_load hu ?_)
  simp only [PySem.W.kxs_mw, show (Value.type "method-wrapper" == Value.type "method" || Value.type "method-wrapper" == Value.type "builtin_function_or_method" || Value.type "method-wrapper" == Value.type "method-wrapper") = true by decide, if_true]
  refine PySem.W.KFB.if_so (by decide) ?_
  refine wpAny_bind (PySem.W.check_bound_init F.excBase_ValueError.toExcCallFacts (J.kIn _ _ hC) ho2 rfl ?_)
  refine wpAny_bind (wpAny_pure (wpAny_pure ?_))
  refine ⟨plainId_quiet F.excBase_ValueError.init.plain _, codeAny_builtin F.excBase_ValueError.initEntry ?_⟩
  refine PySem.W.exc_init_tree (cls := .ref C) (t0 := t2) (dv := none) (c2 := .none) (c3 := .none) (b4 := .bool false) ho2 hlen fun h3 k hx _ => ?_
  have J' := J.write (t' := tk2) (x := a) (e := a) (o := exo a C none) (by rw [ea]; exact True.intro) (.inl rfl) k ⟨_, hx⟩ (exo_ok hx)
  have eu : upd H1 a (exo a C none) = H1 := by
    funext b
    by_cases hb : b = a
    · rw [hb, upd_same, ea]
    · rw [upd_ne hb]
  rw [eu] at J'
  exact ⟨trivial, J'.pins_of fun q hq => J'.pin q (List.mem_append_right _ (List.mem_cons_of_mem _ hq))⟩
end
end DL
set_option Elab.async false
set_option linter.all false
set_option maxRecDepth 100000
set_option maxHeartbeats 2000000
namespace DL
open PySem PySem.Spec PyProof.Rows L2
/-! ### self.f = p, one behind another -/
def tFs (K : PySem.W.Frag) : List (Str × Nat) → TS
  | [] => tNext
  | (f, i) :: r => tSeq (tOst K f (tVar 0) (tVar i)) (tFs K r)
/-- an own error's __init__ -/
def spI (C : Addr) (n : Nat) (fs : List (Str × Nat)) : Sp := fun vs H Q _ => vs.length = n ∧ ∃ a ws, vs = .ref a :: ws ∧ H a = some (exo a C none) ∧
  ∀ d H', H d = none → d ≠ a → H' a = some (exo a C (some d)) → H' d = some (exd d (fs.reverse.map fun p => (p.1, vs[p.2]?.getD .non))) → (∀ b, b ≠ a → b ≠ d → H' b = H b) → Q .non H'
theorem tFs_go {K : PySem.W.Frag} {C a dx : Addr} {vs : List V} {σ : L2.St} {D : Ends} (T : OexC K C) (hσ : ∀ (i : Nat) (v : V), vs[i]? = some v → σ[i]? = some (some v)) (h0 : σ[0]? = some (some (.ref a))) :
    ∀ (fs : List (Str × Nat)) (done : List (Str × V)) (H : Hp), (∀ p ∈ fs, PySem.W.findIn K (.ref C) p.1 = some none ∧ p.2 < vs.length) → done.length + fs.length ≤ 900 → H a = some (exo a C (some dx)) → H dx = some (exd dx done) → dx ≠ a →
      (∀ H', H' a = some (exo a C (some dx)) → H' dx = some (exd dx ((fs.reverse.map fun p => (p.1, vs[p.2]?.getD .non)) ++ done)) → (∀ b, b ≠ a → b ≠ dx → H' b = H b) → D.nx σ H') → tFs K fs D σ H
  | [], done, H, _, _, ea, ed, _, k => k H ea ed fun _ _ _ => rfl
  | (f, i) :: r, done, H, hf, hl, ea, ed, hda, k => by
    obtain ⟨hno, hi⟩ := hf _ (List.mem_cons_self ..)
    refine ⟨_, hσ i _ (List.getElem?_eq_getElem hi), _, h0, a, C, rfl, T, hno, .inr ⟨dx, done, ea, ed, by simp at hl; omega, ?_⟩⟩
    refine tFs_go T hσ h0 r _ _ (fun p hp => hf p (List.mem_cons_of_mem _ hp)) (by simp at hl ⊢; omega) (by rw [upd_ne (Ne.symm hda)]; exact ea) upd_same hda fun H' h1 h2 h3 => k H' h1 ?_ fun b hb hd => (h3 b hb hd).trans (upd_ne hd)
    rw [h2]
    simp [List.getElem?_eq_getElem hi]
theorem tFs_start {K : PySem.W.Frag} {C a : Addr} {vs : List V} {σ : L2.St} {D : Ends} {f : Str} {i : Nat} {fs : List (Str × Nat)} {H : Hp} (T : OexC K C) (hσ : ∀ (i : Nat) (v : V), vs[i]? = some v → σ[i]? = some (some v)) (h0 : σ[0]? = some (some (.ref a)))
    (hf : ∀ p ∈ (f, i) :: fs, PySem.W.findIn K (.ref C) p.1 = some none ∧ p.2 < vs.length) (hl : fs.length ≤ 800) (ea : H a = some (exo a C none))
    (k : ∀ dx H', H dx = none → dx ≠ a → H' a = some (exo a C (some dx)) → H' dx = some (exd dx (((f, i) :: fs).reverse.map fun p => (p.1, vs[p.2]?.getD .non))) → (∀ b, b ≠ a → b ≠ dx → H' b = H b) → D.nx σ H') : tFs K ((f, i) :: fs) D σ H := by
  obtain ⟨hno, hi⟩ := hf _ (List.mem_cons_self ..)
  refine ⟨_, hσ i _ (List.getElem?_eq_getElem hi), _, h0, a, C, rfl, T, hno, .inl ⟨ea, fun dx hd hda => ?_⟩⟩
  refine tFs_go T hσ h0 fs [(f, vs[i])] _ (fun p hp => hf p (List.mem_cons_of_mem _ hp)) (by simp; omega) upd_same (by rw [upd_ne hda]; exact upd_same) hda fun H' h1 h2 h3 => k dx H' hd hda h1 ?_ fun b hb hd2 => ?_
  · rw [h2]
    simp [List.getElem?_eq_getElem hi]
  · rw [h3 b hb hd2, upd_ne hb, upd_ne hd2]
/-- what the row gives of an own error's __init__ -/
structure IniS (ps : List Str) (params : Arguments) (scope : Scope) : Prop where
  kind : scope.kind = .function
  co : scope.isCoroutine = false
  gen : scope.isGenerator = false
  nd : ps.Nodup
  loc : ∀ x ∈ ps, scope.names.lookup x = some .local
  cell : ∀ y ∈ scope.names, y.2 ≠ .cell
  free : ∀ y, scope.names.lookup y = some .free → y = "__class__"
  hd : ∃ ar : Arg, (params.posonlyargs ++ params.args).head? = some ar ∧ ps[0]? = some ar.arg
  sup : scope.names.lookup ("super" : Str) = some .globalImplicit
  cls : scope.names.lookup ("__class__" : Str) = some .free
section
variable {P : Program} {w : World} {K : PySem.W.Frag} {mg : Str → Option Value} {base : Heap} {C fI cc cda : Addr} {ps : List Str} {qual : Str} {params : Arguments} {rest : List Stmt} {scope : Scope} {dV kV doc pm ct : Value} {an : Option Addr} {p0 p1 p2 p3 p4 : Pos} {e1 : Expr} {es : List Expr} {f : Str} {i n : Nat} {fs : List (Str × Nat)} {idx : List Nat}
/-- the args of super().__init__: the parameters -/
def tVars : List Nat → TA
  | [] => tNil
  | i :: r => tCons (tVar i) (tVars r)
theorem tVars_go {vs : List V} {σ : L2.St} {H : Hp} (hσ : ∀ (i : Nat) (v : V), vs[i]? = some v → σ[i]? = some (some v)) : ∀ (is : List Nat) (Q : List V → Hp → Prop), (∀ i ∈ is, i < vs.length) → (∀ ws, ws.length = is.length → Q ws H) → tVars is σ H Q
  | [], Q, _, k => k [] rfl
  | i :: r, Q, hi, k => ⟨_, hσ i _ (List.getElem?_eq_getElem (hi i (List.mem_cons_self ..))), tVars_go hσ r _ (fun j hj => hi j (List.mem_cons_of_mem _ hj)) fun ws hw => k _ (by simp [hw])⟩
theorem init_fn (T : ErrC P K mg C fI cc cda (PySem.W.ksFn "__init__" qual params (.Expr (.Call (.Attribute (.Call (.Name "super" p0) [] [] p1) "__init__" p2) (e1 :: es) [] p3) p4 :: rest) scope dV kV doc pm an (.ref cda) ct cc))
    (hcd : PySem.W.codeIn K (.ref cda) qual = true) (S : IniS ps params scope) (hn : ps.length = n) (hff : ∀ p ∈ (f, i) :: fs, PySem.W.findIn K (.ref C) p.1 = some none ∧ p.2 < n) (hix : ∀ j ∈ idx, j < n) (hfl : fs.length ≤ 800) (hil : idx.length ≤ 1000)
    (hargs : ∀ A outer s H E, PA (mcx P w K mg base ps qual scope fI (.ref cda) cc A outer s H E) (e1 :: es) (tVars idx))
    (hrest : ∀ A outer s H E, PSs (mcx P w K mg base ps qual scope fI (.ref cda) cc A outer s H E) rest (tFs K ((f, i) :: fs)))
    (hpl : ∀ env, (backTo p3 (starEach es env)).any (·.1) = false) (he : ∀ env, starEach (e1 :: es) env = (false, eval e1 env) :: starEach es env)
    (hsw : ∀ env, swapsWith (.Call (.Attribute (.Call (.Name "super" p0) [] [] p1) "__init__" p2) (e1 :: es) [] p3) none p4.line env = pure false)
    (pl : PySem.Env → Sem Bool) (hc : ∀ env, eval (.Call (.Attribute (.Call (.Name "super" p0) [] [] p1) "__init__" p2) (e1 :: es) [] p3) env = (do
      let ov ← attributeBase (.Call (.Name "super" p0) [] [] p1) "__init__" env (eval (.Call (.Name "super" p0) [] [] p1) env)
      standAt p2.atName
      let (f, first) ← holding [ov] (getMethod ov "__init__" (pl env))
      callWith p3 f first (backTo p3 (starEach (e1 :: es) env)) [])) :
    FnOk P w K mg base (L2.CX P w) 1 fI (PySem.W.ksFn "__init__" qual params (.Expr (.Call (.Attribute (.Call (.Name "super" p0) [] [] p1) "__init__" p2) (e1 :: es) [] p3) p4 :: rest) scope dV kV doc pm an (.ref cda) ct cc) ps (spI C n ((f, i) :: fs)) := by
  refine ⟨fun vs H Q E h => h.1.trans hn.symm, fun A outer s H args us vs Q E hr e0 hb r hsp => ?_⟩
  obtain ⟨hl, a, ws, hvs, ea, hq⟩ := hsp
  obtain ⟨oc, od, osl, hfo⟩ := T.fn
  obtain ⟨cl, cld, csl, hcell⟩ := T.cell
  obtain ⟨ar, har, hps0⟩ := S.hd
  have KX : K.In s.heap := e0.mod.kin.keeps fun b o e => (e0.bs b o e).1
  have hll : vs.length = ps.length := by rw [hl, hn]
  refine PySem.ks_codeAny_call_defAt (fd := PySem.W.ksFn "__init__" qual params (.Expr (.Call (.Attribute (.Call (.Name "super" p0) [] [] p1) "__init__" p2) (e1 :: es) [] p3) p4 :: rest) scope dV kV doc pm an (.ref cda) ct cc) (binds := ps.zip us)
    hr.depth (KX _ _ hfo) rfl (e0.mod.nolimit.keeps fun b o e => (e0.bs b o e).1) (PySem.W.codeRec_of KX hcd) rfl hb S.cell (fun y hy => S.loc _ (List.of_mem_zip hy).1) (fun h₁ hns hk₁ => ?_) S.co S.gen S.kind
  have I : Inv (mcx P w K mg base ps qual scope fI (.ref cda) cc A outer s H E) [] (L2.start ps vs) H { s with heap := h₁, toks := s.toks + (ps.zip us).length } :=
    m_start S.kind S.nd S.loc S.cell S.free hcell hr.hd e0 hll r hns hk₁
  have hσ : ∀ (i : Nat) (v : V), vs[i]? = some v → (L2.start ps vs)[i]? = some (some v) := fun i v h => by
    unfold L2.start
    rw [List.getElem?_append_left (by simpa using (List.getElem?_eq_some_iff.mp h).1), List.getElem?_map, h]; rfl
  have h0 : (L2.start ps vs)[0]? = some (some (.ref a)) := hσ 0 _ (by rw [hvs]; rfl)
  refine PySem.ks_wpAt_execs_cons (PySem.ks_wpAt_mono (super_init (X := mcx P w K mg base ps qual scope fI (.ref cda) cc A outer s H E) (t := tVars idx) T rfl S.kind har S.sup S.cls (S.loc _ (List.mem_of_getElem? hps0)) hps0 I h0 ea (hargs A outer s H E)
    (tVars_go hσ idx _ (fun j hj => by rw [hl]; exact hix j hj) fun ws hw => ⟨rfl, by omega⟩) (hc _) (he _) (hpl _) (hsw _)) (fun fl s' hs => ?_) fun e s' hs => hs)
  obtain ⟨rfl, J⟩ := hs
  have ht : tFs K ((f, i) :: fs) { nx := fun _ H' => Q .non H', rt := fun _ _ => False } (L2.start ps vs) H :=
    tFs_start T.ex hσ h0 (fun p hp => ⟨(hff p hp).1, by rw [hl]; exact (hff p hp).2⟩) hfl ea fun dx H' h1 h2 h3 h4 h5 => hq dx H' h1 h2 h3 h4 h5
  refine PySem.wpAt_of_wpAny (wpAny_mono ((hrest A outer s H E).run [] _ _ _ _ J ht) (fun fl s2 h2 => ?_) fun e s2 h2 => h2)
  cases fl with
  | ret u =>
    obtain ⟨_, _, _, _, _, q⟩ := h2
    exact False.elim q
  | next =>
    obtain ⟨σ', H', J2, q⟩ := h2
    exact ⟨V.non, H', J2.os, J2.bare, J2.base, J2.hok, rfl, q⟩
  | brk =>
    obtain ⟨_, _, _, q⟩ := h2
    exact False.elim q
  | cont =>
    obtain ⟨_, _, _, q⟩ := h2
    exact False.elim q
end
end DL
set_option Elab.async false
set_option linter.all false
set_option maxRecDepth 100000
set_option maxHeartbeats 2000000
namespace DL
open PySem PySem.Spec PyProof.Rows L2
/-! ### raise E(e, ..) -/
def up1 (fs : List (Str × Nat)) : List (Str × Nat) := fs.map fun p => (p.1, p.2 + 1)
/-- an own error whose __init__ takes n things beside self, and keeps under the names of fs the ones of these numbers -/
def Er (P : Program) (w : World) (K : PySem.W.Frag) (mg : Str → Option Value) (base : Heap) (x : Str) (n : Nat) (fs : List (Str × Nat)) : Prop :=
  ∃ (C fI : Addr) (fd : FuncData) (ps : List Str), mg x = some (.ref C) ∧ PySem.W.nsIn K mainGlobals x = some (some (.ref C)) ∧ OexC K C ∧ PySem.W.findIn K (.ref C) "__init__" = some (some (.ref fI)) ∧ PySem.W.typeIn K (.ref fI) = some (.type "function") ∧
    Binds K fd ps [] ∧ FnOk P w K mg base (L2.CX P w) 1 fI fd ps (spI C (n + 1) (up1 fs))
def exOf (x : Str) (fs : List (Str × Nat)) (ws : List Wd) : Ex := ⟨x, fs.reverse.map fun p => (p.1, (ws[p.2]?).getD (.d .none))⟩
def sRaise (x : Str) (n : Nat) (fs : List (Str × Nat)) (fa : Em (List Wd)) : Sm := fun env m => rs (fa env m) env fun ws m => if ws.length = n then .exc (exOf x fs ws) env m else .stuck
section
variable {X : Cx} {W : L2.WX}
theorem fsOk_of {K : PySem.W.Frag} {ι : List Addr} {H : Hp} {ws : List Wd} {vs : List V} (s0 : V) (r : RelWs K ι H ws vs) : ∀ fs : List (Str × Nat),
    FsOk K ι H (fs.map fun p => (p.1, (ws[p.2]?).getD (.d .none))) ((up1 fs).map fun p => (p.1, ((s0 :: vs)[p.2]?).getD .non))
  | [] => trivial
  | (f, i) :: fs => by
    refine ⟨rfl, ?_, fsOk_of s0 r fs⟩
    show RelW K ι H ((ws[i]?).getD (.d .none)) (((s0 :: vs)[i + 1]?).getD .non)
    rw [List.getElem?_cons_succ]
    cases e : ws[i]? with
    | some w =>
      obtain ⟨v, e2, r2⟩ := r.get e
      rw [e2]; exact r2
    | none =>
      have : vs[i]? = none := by
        rw [List.getElem?_eq_none_iff] at e ⊢
        rw [← r.length]; exact e
      rw [this]; exact .d .non
theorem ds_raise {x : Str} {n k : Nat} {fs : List (Str × Nat)} {p pos pos' : Pos} {e : Expr} {es : List Expr} {fa : Em (List Wd)} (c : Er X.prog X.w X.K X.mg X.base x n fs) (hcm : X.calm = true) (tk : Takes X W) (hr : Room k X.A) (hk : 2 ≤ k) (hg : Gl X x) (hn : n ≤ 1000)
    (ha : PA X (e :: es) (tA X.K W fa)) (hdb : (x == ("__debug__" : Str)) = false := by decide) (he : starEach (e :: es) X.env = (false, eval e X.env) :: starEach es X.env := by rfl) (hpl : (backTo pos (starEach es X.env)).any (·.1) = false := by rfl) :
    PS X (.Raise (some (.Call (.Name x p) (e :: es) [] pos)) none pos') (tS X.K W (sRaise x n fs fa)) := by
  obtain ⟨C, fI, fd, ps, h1, h2, T, h3, h4, h5, h6⟩ := c
  refine PSimp (ps_raise hcm tk (pmk_oex T h3 h4 h6 (hr.mono hk) h5 .nil (fun _ _ _ _ _ _ _ ⟨_, _, _, _, _, _, _, _, _, _, _, _, z⟩ => z.elim) hg h1 ha hdb he hpl)) fun D σ H ⟨ι, env, m, eo, mo, p⟩ => ?_
  refine PostS.bind eo mo p fun ι1 H1 ws vs m1 st1 mo1 eo1 ra p1 => ?_
  have p1' : PostS X.K W D ι1 H1 (if ws.length = n then .exc (exOf x fs ws) env m1 else .stuck) := p1
  by_cases hl : ws.length = n
  · rw [if_pos hl] at p1'
    refine ⟨by rw [← ra.length, hl]; exact hn, fun a hna => ⟨by simp [← ra.length, hl], a, vs, by simp, upd_same, fun d H2 hd hda e1 e2 e3 => ?_⟩⟩
    have hd1 : H1 d = none := by rw [upd_ne hda] at hd; exact hd
    refine ⟨rfl, d, _, e1, e2, hd1, ?_⟩
    have H3 : ∀ b, b ≠ a → b ≠ d → upd (del H2 a) d (.xd ((up1 fs).reverse.map fun p => (p.1, ((V.ref a :: (vs ++ []))[p.2]?).getD .non))) b = H1 b := fun b hb hb2 => by
      rw [upd_ne hb2, del_ne hb, e3 b hb hb2, upd_ne hb]
    have hne : ∀ {b : Addr}, H1 b ≠ none → b ≠ a ∧ b ≠ d := fun {b} h => ⟨fun z => h (by rw [z]; exact hna), fun z => h (by rw [z]; exact hd1)⟩
    have st2 : Stp ι1 H1 ι1 (upd (del H2 a) d (.xd ((up1 fs).reverse.map fun p => (p.1, ((V.ref a :: (vs ++ []))[p.2]?).getD .non)))) :=
      ⟨List.prefix_refl _, fun b hb n => absurd hb n, fun b o hb _ => by
        obtain ⟨q1, q2⟩ := hne (b := b) (by rw [hb]; exact fun z => by cases z)
        rw [H3 b q1 q2]; exact hb⟩
    have mo2 := mo1.stay (ι' := ι1) st2 fun b hb => H3 b (hne (mo1.apart b hb).2.2.1).1 (hne (mo1.apart b hb).2.2.1).2
    refine p1' ι1 _ σ (.ref C) (some d) st2 mo2 (eo1.step mo1.apart st2) ⟨C, h2, rfl, .inr ⟨d, _, rfl, upd_same, ?_⟩⟩
    have r2 := ra.step mo1.apart st2
    have := fsOk_of (.ref a) r2 fs.reverse
    rw [List.append_nil]
    unfold up1 at this ⊢
    rw [← List.map_reverse]
    rw [List.append_nil, ← List.map_reverse] at this
    exact this
  · rw [if_neg hl] at p1'
    exact p1'.elim
end
end DL
set_option Elab.async false
set_option linter.all false
set_option maxRecDepth 100000
set_option maxHeartbeats 2000000
namespace DL
open PySem PySem.Spec PyProof.Rows L2
/-! ### own errors, read off the heap -/
structure ErD where
  cls : Str
  qual : Str
  params : Arguments
  body : List Stmt
  scope : Scope
  fs : List Str
abbrev FnR : Type := Option (Str × Str × Arguments × FuncBody × Scope × Addr × List Str × Addr)
def erI (K : PySem.W.Frag) (x : Str) : Addr := He.ma K (He.ga K x) "__init__"
def fnR (K : PySem.W.Frag) (x : Str) : FnR := match K.lookup (erI K x) with
  | some ⟨_, _, .func fd, _⟩ => some (fd.name, fd.qualname, fd.params, fd.body, fd.scope, fd.globals, fd.closure.map (·.1), fd.builtins)
  | _ => none
def ErD.val (d : ErD) : FnR := some ("__init__", d.qual, d.params, .stmts d.body, d.scope, mainGlobals, ["__class__"], builtinsNs)
def oexB (K : PySem.W.Frag) (C : Addr) : Bool := (match K.lookup C with
  | some ⟨.type "type", _, .cls cd, sl⟩ => (match cd.mro, sl.toList with
    | .ref C' :: bm, [_, _, _, _, some (.builtin n), _] => C' == C && n == "ValueError.__new__" && !cd.hasDel && cd.hasDict && PySem.HandSPX.refsVE bm
    | _, _ => false)
  | _ => false) && He.eqO (PySem.W.findIn K (.ref C) "__setattr__") (some (some (.builtin "object.__setattr__"))) && decide (PySem.W.subIn K (.ref C) (.type "BaseException") = some true) && decide (PySem.W.typeIn K (.ref C) = some (.type "type")) && PySem.W.keepIn K (.ref C)
theorem oexB_ok {K : PySem.W.Frag} {C : Addr} (h : oexB K C = true) : OexC K C := by
  unfold oexB at h
  simp only [Bool.and_eq_true, decide_eq_true_eq] at h
  obtain ⟨⟨⟨⟨q, h1⟩, h2⟩, h3⟩, h4⟩ := h
  refine ⟨?_, He.eqO_ok h1, h2, h3, h4⟩
  split at q
  · rename_i dd cd sl ho
    split at q
    · rename_i C' bm k0 k1 k2 k3 n k5 hm hs
      simp only [Bool.and_eq_true, beq_iff_eq, Bool.not_eq_true'] at q
      obtain ⟨⟨⟨⟨rfl, rfl⟩, hdel⟩, hdic⟩, ht⟩ := q
      obtain ⟨nm, bs, mro, ns, qn, hd, sn, sub, ab, col, del⟩ := cd
      dsimp only at hm hdel hdic
      subst hm hdel hdic
      have hsl : sl = #[k0, k1, k2, k3, some (.builtin "ValueError.__new__"), k5] := by
        obtain ⟨l⟩ := sl
        simp only at hs
        rw [hs]
      subst hsl
      exact ⟨nm, qn, ns, bs, bm, sn, sub, ab, col, dd, k0, k1, k2, k3, k5, ho, ht⟩
    · cases q
  · cases q
def codB (K : PySem.W.Frag) (file : Str) : Value → Bool
  | .ref c => (match K.lookup c with
    | some ⟨_, _, .fields vs, _⟩ => (match (vs[2]? : Option Value) with
      | some (Value.str f _) => file == f
      | _ => false)
    | _ => false)
  | _ => false
def celB (K : PySem.W.Frag) (C : Addr) : List (Str × Addr) → Bool
  | [(_, cc)] => (match K.lookup cc with
    | some ⟨_, _, .cell (some (.ref D)), _⟩ => D == C
    | _ => false)
  | _ => false
def erB (file : Str) (K : PySem.W.Frag) (d : ErD) : Bool :=
  He.eqO (PySem.W.nsIn K mainGlobals d.cls) (some (some (.ref (He.ga K d.cls)))) && oexB K (He.ga K d.cls) && He.eqO (PySem.W.findIn K (.ref (He.ga K d.cls)) "__init__") (some (some (.ref (erI K d.cls)))) &&
  decide (PySem.W.typeIn K (.ref (erI K d.cls)) = some (.type "function")) && (match K.lookup (erI K d.cls) with
    | some ⟨_, _, .func fd, _⟩ => PySem.W.codeIn K fd.code d.qual && codB K file fd.code && celB K (He.ga K d.cls) fd.closure && decide (fd.defaults = Value.none)
    | _ => false) && decide (PySem.W.mroIn K (He.ga K d.cls) (.ref (He.ga K d.cls)) = some true) &&
  He.eqO (PySem.W.ks_superIn K (He.ga K d.cls) (He.ga K d.cls) "__init__") (some (some (.builtin "ValueError.__init__"))) && He.eqO (PySem.W.nsIn K cStatics "thirdparty.any") (some none) &&
  decide (PySem.W.subIn K (.ref (He.ga K d.cls)) (.type "ValueError") = some true) && d.fs.all fun f => He.eqO (PySem.W.findIn K (.ref (He.ga K d.cls)) f) (some none)
structure ErF (P : Program) (K : PySem.W.Frag) (mg : Str → Option Value) (d : ErD) (C fI cc cda : Addr) (dV kV doc pm ct : Value) (an : Option Addr) : Prop where
  mgC : mg d.cls = some (.ref C)
  ns : PySem.W.nsIn K mainGlobals d.cls = some (some (.ref C))
  iC : PySem.W.findIn K (.ref C) "__init__" = some (some (.ref fI))
  tI : PySem.W.typeIn K (.ref fI) = some (.type "function")
  cd : PySem.W.codeIn K (.ref cda) d.qual = true
  er : ErrC P K mg C fI cc cda (PySem.W.ksFn "__init__" d.qual d.params d.body d.scope dV kV doc pm an (.ref cda) ct cc)
  no : ∀ f ∈ d.fs, PySem.W.findIn K (.ref C) f = some none
  dn : dV = .none
theorem erF_of {P : Program} {K : PySem.W.Frag} {h : Heap} {mg : Str → Option Value} {d : ErD} (X : K.In h) (G : h.Ns mainGlobals mg) (hs : mg "super" = none) (ht : (P.main.scope.names.lookup ("super" : Str)).isSome = false) (e : fnR K d.cls = d.val) (c : erB P.main.file K d = true) :
    ∃ C fI cc cda dV kV doc pm ct an, ErF P K mg d C fI cc cda dV kV doc pm ct an := by
  unfold erB at c
  simp only [Bool.and_eq_true, decide_eq_true_eq, List.all_eq_true] at c
  obtain ⟨⟨⟨⟨⟨⟨⟨⟨⟨c1, c2⟩, c3⟩, c4⟩, c5⟩, c6⟩, c7⟩, c8⟩, c9⟩, c10⟩ := c
  have c1' := He.eqO_ok c1
  unfold fnR at e
  cases q : K.lookup (erI K d.cls) with
  | none => rw [q] at c5; cases c5
  | some o =>
    obtain ⟨oc, od, dt, osl⟩ := o
    rw [q] at c5 e
    cases dt with
    | func fd =>
      obtain ⟨n1, n2, n3, n4, n5, n6, n7, n8, n9, n10, n11, n12, n13, n14, n15⟩ := fd
      have e2 : (some (n1, n2, n3, n4, n5, n6, n7.map (·.1), n15) : FnR) = (some ("__init__", d.qual, d.params, .stmts d.body, d.scope, mainGlobals, ["__class__"], builtinsNs) : FnR) := e
      simp only [Option.some.injEq, Prod.mk.injEq] at e2
      obtain ⟨h1, h2, h3, h4, h5, h6, h7, h8⟩ := e2
      subst h1 h2 h3 h4 h5 h6 h8
      have c5' : (PySem.W.codeIn K n13 d.qual && codB K P.main.file n13 && celB K (He.ga K d.cls) n7 && decide (n8 = Value.none)) = true := c5
      simp only [Bool.and_eq_true] at c5'
      obtain ⟨⟨⟨k1, k2⟩, k3⟩, k4⟩ := c5'
      unfold codB at k2
      unfold celB at k3
      split at k2
      · rename_i cda
        split at k2
        · rename_i ccl cdd cvs ccs hcode
          split at k2
          · rename_i ff tf hvs
            split at k3
            · rename_i nm cc
              split at k3
              · rename_i ccl2 ccd2 D ccs2 hcell
                obtain rfl : D = He.ga K d.cls := beq_iff_eq.mp k3
                obtain rfl : nm = "__class__" := by simpa using h7
                exact ⟨_, _, cc, cda, n8, n9, n10, n11, n14, n12, PySem.W.mg_of X G c1', c1', He.eqO_ok c3, c4, k1,
                  ⟨oexB_ok c2, ⟨_, _, _, q⟩, ⟨_, _, _, _, _, _, hcode, hvs, k2⟩, ⟨_, _, _, hcell⟩, c6, hs, He.eqO_ok c7, He.eqO_ok c8, c9, ht⟩, fun f hf => He.eqO_ok (c10 f hf), of_decide_eq_true k4⟩
              · cases k3
            · cases k3
          · cases k2
        · cases k2
      · cases k2
    | _ => cases c5
/-! ### classes of errors, as except clauses name them -/
structure EcF (K : PySem.W.Frag) (mg : Str → Option Value) (x : Str) (fs : List Str) : Prop where
  mgC : mg x = some (.ref (He.ga K x))
  ns : PySem.W.nsIn K mainGlobals x = some (some (.ref (He.ga K x)))
  xf : XfC K (He.ga K x)
  no : ∀ f ∈ fs, PySem.W.findIn K (.ref (He.ga K x)) f = some none
def ecB (K : PySem.W.Frag) (p : Str × List Str) : Bool := He.eqO (PySem.W.nsIn K mainGlobals p.1) (some (some (.ref (He.ga K p.1)))) && xfB K (He.ga K p.1) && p.2.all fun f => He.eqO (PySem.W.findIn K (.ref (He.ga K p.1)) f) (some none)
theorem ecB_ok {K : PySem.W.Frag} {h : Heap} {mg : Str → Option Value} (X : K.In h) (G : h.Ns mainGlobals mg) {x : Str} {fs : List Str} (c : ecB K (x, fs) = true) : EcF K mg x fs := by
  unfold ecB at c
  simp only [Bool.and_eq_true, List.all_eq_true] at c
  obtain ⟨⟨c1, c2⟩, c3⟩ := c
  exact ⟨PySem.W.mg_of X G (He.eqO_ok c1), He.eqO_ok c1, xfB_ok c2, fun f hf => He.eqO_ok (c3 f hf)⟩
def subOf (l : List ((Str × Str) × Bool)) (x y : Str) : Option Bool := l.lookup (x, y)
def sbB (K : PySem.W.Frag) (p : (Str × Str) × Bool) : Bool := decide (PySem.W.exmOne K (.ref (He.ga K p.1.1)) (.ref (He.ga K p.1.2)) = some p.2)
/-- which error is one of which -/
def SubK (K : PySem.W.Frag) (sub : Str → Str → Option Bool) : Prop := ∀ x y b C D, sub x y = some b → PySem.W.nsIn K mainGlobals x = some (some (.ref C)) → PySem.W.nsIn K mainGlobals y = some (some (.ref D)) → PySem.W.exmOne K (.ref C) (.ref D) = some b
theorem look_mem {α β : Type} [BEq α] [LawfulBEq α] {a : α} {b : β} : ∀ {l : List (α × β)}, l.lookup a = some b → (a, b) ∈ l
  | [], h => by cases h
  | (k, v) :: l, h => by
    unfold List.lookup at h
    cases e : (a == k) with
    | true =>
      rw [e] at h
      have h2 : v = b := Option.some.inj h
      rw [beq_iff_eq.mp e, h2]
      exact List.mem_cons_self ..
    | false =>
      rw [e] at h
      exact List.mem_cons_of_mem _ (look_mem h)
theorem ga_of {K : PySem.W.Frag} {x : Str} {C : Addr} (h : PySem.W.nsIn K mainGlobals x = some (some (.ref C))) : He.ga K x = C := by
  unfold He.ga
  rw [h]
theorem subK_of {K : PySem.W.Frag} {l : List ((Str × Str) × Bool)} (h : l.all (sbB K) = true) : SubK K (subOf l) := fun x y b C D e hx hy => by
  have hm : ((x, y), b) ∈ l := look_mem e
  have h2 := List.all_eq_true.mp h _ hm
  unfold sbB at h2
  have h3 := of_decide_eq_true h2
  rw [ga_of hx, ga_of hy] at h3
  exact h3
/-! ### the hook -/
abbrev AlR : Type := He.AlD × Bool × List FnR
structure SaysR (file : Str) (fa : List He.Fa) (fn : List He.DefD) (cs : List (Str × PyData)) (er : List ErD) (ec : List (Str × List Str)) (sb : List ((Str × Str) × Bool)) (K : PySem.W.Frag) : Prop where
  d : He.SaysD fa fn K
  c : cs.all (conF K) = true
  x : er.all (erB file K) = true
  f : er.map (fun d => fnR K d.cls) = er.map ErD.val
  e : ec.all (ecB K) = true
  s : sb.all (sbB K) = true
def kR (n : Nat) (g : Addr → Option Obj) : PySem.W.Frag := He.frG g (cStatics :: He.asD g n)
def obsR (file : Str) (n : Nat) (fa : List He.Fa) (fn : List He.DefD) (cs : List (Str × PyData)) (er : List ErD) (ec : List (Str × List Str)) (sb : List ((Str × Str) × Bool)) (g : Addr → Option Obj) : AlR :=
  (He.obsD fa fn (kR n g), cs.all (conF (kR n g)) && er.all (erB file (kR n g)) && ec.all (ecB (kR n g)) && sb.all (sbB (kR n g)), er.map fun d => fnR (kR n g) d.cls)
def hookR (file : Str) (n : Nat) (fa : List He.Fa) (fn : List He.DefD) (cs : List (Str × PyData)) (er : List ErD) (ec : List (Str × List Str)) (sb : List ((Str × Str) × Bool)) : PySem.W.Hook where
  α := AlR
  obs := fun s => obsR file n fa fn cs er ec sb s.heap.get?
  val := fun _ => (He.valD fn, true, er.map ErD.val)
  says := fun _ h => ∃ K : PySem.W.Frag, K.In h ∧ SaysR file fa fn cs er ec sb K
  of := fun w s e => by
    have e1 : He.obsD fa fn (kR n s.heap.get?) = He.valD fn := congrArg (·.1) e
    have e2 : (cs.all (conF (kR n s.heap.get?)) && er.all (erB file (kR n s.heap.get?)) && ec.all (ecB (kR n s.heap.get?)) && sb.all (sbB (kR n s.heap.get?))) = true := congrArg (·.2.1) e
    have e3 : er.map (fun d => fnR (kR n s.heap.get?) d.cls) = er.map ErD.val := congrArg (·.2.2) e
    simp only [Bool.and_eq_true] at e2
    exact ⟨_, He.frG_in, e1, e2.1.1.1, e2.1.1.2, e3, e2.1.2, e2.2⟩
  keeps := fun _ _ _ ⟨K, hK, c⟩ k => ⟨K, PySem.W.Frag.In.keeps hK k, c⟩
theorem obsR_eq {file : Str} {n : Nat} {fa : List He.Fa} {fn : List He.DefD} {cs : List (Str × PyData)} {er : List ErD} {ec : List (Str × List Str)} {sb : List ((Str × Str) × Bool)} {g : Addr → Option Obj} {s : Shared} (h : ∀ a, g a = s.heap.get? a) : obsR file n fa fn cs er ec sb g = (hookR file n fa fn cs er ec sb).obs s := by
  have e : g = s.heap.get? := funext h
  rw [e] <;> rfl
section
variable {file : Str} {fa : List He.Fa} {fn : List He.DefD} {cs : List (Str × PyData)} {er : List ErD} {ec : List (Str × List Str)} {sb : List ((Str × Str) × Bool)} {K : PySem.W.Frag}
theorem SaysR.con {h : Heap} {mg : Str → Option Value} (X : K.In h) (G : h.Ns mainGlobals mg) (c : SaysR file fa fn cs er ec sb K) (i : Nat) {x : Str} {d : PyData} (e : cs[i]? = some (x, d) := by rfl) : Con K mg x d :=
  conF_ok X G (List.all_eq_true.mp c.c _ (List.mem_of_getElem? e))
theorem SaysR.err {P : Program} {h : Heap} {mg : Str → Option Value} (X : K.In h) (G : h.Ns mainGlobals mg) (c : SaysR P.main.file fa fn cs er ec sb K) (hs : mg "super" = none) (ht : (P.main.scope.names.lookup ("super" : Str)).isSome = false) (i : Nat) {d : ErD} (e : er[i]? = some d := by rfl) :
    ∃ C fI cc cda dV kV doc pm ct an, ErF P K mg d C fI cc cda dV kV doc pm ct an := by
  have e3 := congrArg (fun l : List FnR => l[i]?) c.f
  simp only [List.getElem?_map, e, Option.map_some, Option.some.injEq] at e3
  exact erF_of X G hs ht e3 (List.all_eq_true.mp c.x _ (List.mem_of_getElem? e))
theorem SaysR.ecf {h : Heap} {mg : Str → Option Value} (X : K.In h) (G : h.Ns mainGlobals mg) (c : SaysR file fa fn cs er ec sb K) (i : Nat) {x : Str} {fs : List Str} (e : ec[i]? = some (x, fs) := by rfl) : EcF K mg x fs :=
  ecB_ok X G (List.all_eq_true.mp c.e _ (List.mem_of_getElem? e))
end
end DL
set_option Elab.async false
set_option linter.all false
set_option maxRecDepth 100000
set_option maxHeartbeats 2000000
namespace L2
open PySem PySem.Spec PyProof.Rows
/-! ### several except clauses, some with a name -/
def offE (i : Nat) (D : Ends) : Ends := { nx := fun σ' H' => D.nx (σ'.set i none) H', rt := D.rt, bk := fun σ' H' => D.bk (σ'.set i none) H', ct := fun σ' H' => D.ct (σ'.set i none) H' }
def wMix (K : PySem.W.Frag) (Wout : WX) (D : Ends) : List (Value × Option Nat × (Addr → Value → Option Addr → TS)) → WX
  | [] => Wout
  | (c, none, ts) :: r => fun cls d σ H => ∃ b, PySem.W.exmOne K cls c = some b ∧ (b = true → ∀ a, H a = none → ts a cls d D σ H) ∧ (b = false → wMix K Wout D r cls d σ H)
  | (c, some i, ts) :: r => fun cls d σ H => ∃ b, PySem.W.exmOne K cls c = some b ∧ (b = true → ∀ a, H a = none → ts a cls d (offE i D) (σ.set i (some (.ref a))) H) ∧ (b = false → wMix K Wout D r cls d σ H)
inductive HdsM (X : Cx) : List ExceptHandler → List (Value × Option Nat × (Addr → Value → Option Addr → TS)) → Prop
  | nil : HdsM X [] []
  | cons {x : Str} {c : Value} {ts : Addr → Value → Option Addr → TS} {b₀ : Stmt} {suite : List Stmt} {np pos' : Pos} {hds : List ExceptHandler} {l : List (Value × Option Nat × (Addr → Value → Option Addr → TS))} (hc : Names X x c)
      (hsu : ∀ (a : Addr) (oe : Obj) (cls : Value) (d : Option Addr) (pn : List (Addr × Obj)), Zc cls d oe → (∃ vs, oe.data = .fields vs) → PSs (X.suite a ((a, oe) :: pn)) (b₀ :: suite) (ts a cls d)) (r : HdsM X hds l) :
      HdsM X (.ExceptHandler (some (.Name x np)) none (b₀ :: suite) pos' :: hds) ((c, none, ts) :: l)
  | named {x n : Str} {c : Value} {i : Nat} {ts : Addr → Value → Option Addr → TS} {b₀ : Stmt} {suite : List Stmt} {np pos' : Pos} {hds : List ExceptHandler} {l : List (Value × Option Nat × (Addr → Value → Option Addr → TS))} (hc : Names X x c) (hi : X.N[i]? = some n) (hln : X.env.kindOf n = some .local)
      (hsu : ∀ (a : Addr) (oe : Obj) (cls : Value) (d : Option Addr) (pn : List (Addr × Obj)), Zc cls d oe → (∃ vs, oe.data = .fields vs) → PSs (X.suite a ((a, oe) :: pn)) (b₀ :: suite) (ts a cls d)) (r : HdsM X hds l) :
      HdsM X (.ExceptHandler (some (.Name x np)) (some n) (b₀ :: suite) pos' :: hds) ((c, some i, ts) :: l)
section
variable {X : Cx} {body : List Stmt} {h₀ : ExceptHandler} {hds : List ExceptHandler} {l : List (Value × Option Nat × (Addr → Value → Option Addr → TS))} {pos : Pos} {tb : WX → TS} {Wout : WX}
theorem ps_try_mix (hs : X.stack = X.env :: X.outer) (hf : X.env.frame = some X.env.locals) (tk : Takes X Wout)
    (hb : ∀ (W : WX) (pn : List (Addr × Obj)) (xe : Value → Shared → Prop), Takes (X.tr pn xe) W → PassesOwn (model X.prog X.w) X.A X.env xe → PSs (X.tr pn xe) body (tb W))
    (hN : X.N.Nodup) (hh : HdsM X (h₀ :: hds) l) : PS X (.Try body (h₀ :: hds) [] [] pos) (fun D σ H => tb (wMix X.K Wout D l) D σ H) := by
  refine ⟨fun pins s σ H D I h => ?_⟩
  have ok := I.ok
  have hfr : X.A.frames = some (X.env :: X.outer) := by rw [ok.frames, hs]
  refine wpAny_Try_except ?_
  refine wpAny_mono ((hb (wMix X.K Wout D l) (X.pn ++ pins) (fun e s₁ => wpAny (model X.prog X.w) X.A (noteFrame e X.env) (fun _ s₂ => wpAny (model X.prog X.w) X.A (setFlight e none) (fun _ s₃ =>
    wpAny (model X.prog X.w) X.A (handleBy e X.env (h₀ :: hds)) (SP X pins D) X.xe s₃) X.xe s₂) X.xe s₁) (fun u s' xx => ?_) PassesOwn.looking).run [] s σ H D (I.toTry _) h) (fun f s1 hsp => ?_) (fun e s1 he => he)
  · -- the catch
    obtain ⟨a, B, sI, pins', σ', H', cls, d, rfl, J', nb, up, sky, na, os, ag, w⟩ := xx
    have J : Inv X pins σ' H' sI := J'.ofTry ok
    have sky' : Sky B (X.env :: X.outer) a (Zc cls d) X.env.locals s'.heap := by rw [← hs]; exact sky
    show wpAny (model X.prog X.w) X.A (noteFrame (.ref a) X.env) _ _ _
    refine Sky.land Zc.steady hfr hf sky' fun h3 fl3 up3 => ?_
    have J3 : Inv X pins σ' H' { s' with heap := h3 } := J.landed nb fl3.1 (up.trans up3) os ag
    obtain ⟨oe3, vs3, he3, hz3, hd3⟩ := fl3.there
    have notFr : ∀ {h : Heap} {o : Obj} {vs : Array Value}, h.FunFrames B (X.env :: X.outer) → h.get? a = some o → o.data = .fields vs → a ∉ frs (X.env :: X.outer) := fun {h o vs} ff e dd hm => by
      obtain ⟨_, o', e', hnf⟩ := ff.mem hm
      rw [e] at e'; cases e'
      exact hnf _ dd
    have nfr := notFr fl3.2.2.1 he3 hd3
    have nL : a ≠ X.env.locals := fun z => nfr (List.mem_filterMap.mpr ⟨X.env, List.mem_cons_self, by rw [hf, z]⟩)
    have nF : a ∉ X.fs := fun hm => by
      obtain ⟨e, he, q⟩ := List.mem_filterMap.mp hm
      exact nfr (List.mem_filterMap.mpr ⟨e, List.mem_cons_of_mem _ he, q⟩)
    have S3 := J3.suite he3 hd3 na nL nF
    have go : ∀ {hds' : List ExceptHandler} {l' : List (Value × Option Nat × (Addr → Value → Option Addr → TS))}, HdsM X hds' l' → wMix X.K Wout D l' cls d σ' H' →
        wpAny (model X.prog X.w) X.A (handleBy (.ref a) X.env hds') (SP X pins D) X.xe { s' with heap := h3 } := by
      intro hds' l' hk
      induction hk with
      | nil =>
        intro w
        refine wpAny_handleBy_nil ?_
        obtain ⟨k1, k2, k3, oe, vs, T, oT, ts', he, hz, hd, h1, hr⟩ := id fl3
        unfold PySem.passOn
        refine wpAny_bind (wpAny_field he hd h1 ?_)
        rw [if_neg (show ¬ ((Value.ref T == Value.none) = true) from by simp)]
        have fin : wpAny (model X.prog X.w) X.A (setFlight (.ref a) X.env.frame) (fun _ s4 => wpAny (model X.prog X.w) X.A (throw (.ref a) : Sem Flow) (SP X pins D) X.xe s4) X.xe { s' with heap := h3 } := by
          rw [hf]
          refine HandSPX.setFlight_upZ fl3 fun h4 hh4 up4 => wpAny_throw (tk _ _ ?_)
          exact ⟨a, B, sI, pins, σ', H', cls, d, rfl, J, nb, (up.trans up3).trans up4, .inr (.inr (by rw [hs]; exact hh4)), na, os, ag, w⟩
        first
          | exact wpAny_bind (wpAny_pure (wpAny_bind fin))
          | exact wpAny_bind fin
      | @cons x c ts b₀ suite np pos' hds2 l2 hc hsu r ih =>
        intro w
        obtain ⟨b, hb1, hyes, hno⟩ := w
        refine wpAny_handleBy_cons (codeAny_handlers_test ?_) (by intro q; cases q)
        have LT : PySem.W.Looks (model X.prog X.w) h3 (typeOf (.ref a)) cls := fun A Q E s k q => wpAny_typeOf_ref (k _ _ he3) (by rw [hz3.1]; exact q)
        have LM := PySem.W.exm_one (M := model X.prog X.w) (J3.kIn) LT hb1
        have test : ∀ {Q : Value → Shared → Prop} {E : Value → Shared → Prop}, Q c { s' with heap := h3 } → wpAny (model X.prog X.w) (X.A.mark (some (.ref a))) (eval (.Name x np) X.env) Q E { s' with heap := h3 } := fun {Q E} q => by
          obtain ⟨hg, hdbg, hm | ⟨hm, hv, hnn⟩⟩ := hc
          · exact ld_glob (X := X.suite a ((a, oe3) :: (X.pn ++ pins))) S3 hg hm q hdbg
          · exact ld_blt (X := X.suite a ((a, oe3) :: (X.pn ++ pins))) S3 hg hm hv q hnn hdbg
        refine test (LM.here ?_)
        cases b with
        | true =>
          refine codeAny_handlers_suite ?_
          refine HandSPX.lands_againZ fl3 fun h4 fl4 up4 => ?_
          have J4 : Inv X pins σ' H' { s' with heap := h4 } := J.landed nb fl4.1 ((up.trans up3).trans up4) os ag
          obtain ⟨oe4, vs4, he4, hz4, hd4⟩ := fl4.there
          have S4 := J4.suite he4 hd4 na nL nF
          refine wpAny_mono ((hsu a oe4 cls d (X.pn ++ pins) hz4 ⟨_, hd4⟩).run [] _ _ H' _ S4 (hyes rfl a na)) (fun f s6 hsp => ?_) (fun _ _ z => False.elim z)
          cases f with
          | next =>
            obtain ⟨σ6, H6, S6, q6⟩ := hsp
            exact ⟨_, _, S6.unsuite ok, q6⟩
          | brk =>
            obtain ⟨σ6, H6, S6, q6⟩ := hsp
            exact ⟨_, _, S6.unsuite ok, q6⟩
          | cont =>
            obtain ⟨σ6, H6, S6, q6⟩ := hsp
            exact ⟨_, _, S6.unsuite ok, q6⟩
          | ret u =>
            obtain ⟨v6, σ6, H6, S6, r6, q6⟩ := hsp
            exact ⟨_, _, _, S6.unsuite ok, r6, q6⟩
        | false =>
          show wpAny _ X.A (handleBy (.ref a) X.env hds2) _ _ _
          exact ih (hno rfl)
      | @named x n c i ts b₀ suite np pos' hds2 l2 hc hi hln hsu r ih =>
        intro w
        obtain ⟨b, hb1, hyes, hno⟩ := w
        refine wpAny_handleBy_cons (codeAny_handlers_test ?_) (by intro q; cases q)
        have LT : PySem.W.Looks (model X.prog X.w) h3 (typeOf (.ref a)) cls := fun A Q E s k q => wpAny_typeOf_ref (k _ _ he3) (by rw [hz3.1]; exact q)
        have LM := PySem.W.exm_one (M := model X.prog X.w) (J3.kIn) LT hb1
        have test : ∀ {Q : Value → Shared → Prop} {E : Value → Shared → Prop}, Q c { s' with heap := h3 } → wpAny (model X.prog X.w) (X.A.mark (some (.ref a))) (eval (.Name x np) X.env) Q E { s' with heap := h3 } := fun {Q E} q => by
          obtain ⟨hg, hdbg, hm | ⟨hm, hv, hnn⟩⟩ := hc
          · exact ld_glob (X := X.suite a ((a, oe3) :: (X.pn ++ pins))) S3 hg hm q hdbg
          · exact ld_blt (X := X.suite a ((a, oe3) :: (X.pn ++ pins))) S3 hg hm hv q hnn hdbg
        refine test (LM.here ?_)
        cases b with
        | true =>
          refine codeAny_handlers_suite_as ?_
          refine HandSPX.lands_againZ fl3 fun h4 fl4 up4 => ?_
          have J4 : Inv X pins σ' H' { s' with heap := h4 } := J.landed nb fl4.1 ((up.trans up3).trans up4) os ag
          obtain ⟨oe4, vs4, he4, hz4, hd4⟩ := fl4.there
          have S4 := J4.suite he4 hd4 na nL nF
          refine store_ok (X := X.suite a ((a, oe4) :: (X.pn ++ pins))) (v := .ref a) S4 hN hi (.inl hln) rfl (fun s5 S5 => ?_) (.inr hln)
          refine wpAny_mono ((hsu a oe4 cls d (X.pn ++ pins) hz4 ⟨_, hd4⟩).run [] s5 _ H' _ S5 (hyes rfl a na)) (fun f s6 hsp => ?_) (fun _ _ z => False.elim z)
          have end_ : ∀ {σ6 : St} {H6 : Hp} {Q : Shared → Prop}, Inv (X.suite a ((a, oe4) :: (X.pn ++ pins))) [] σ6 H6 s6 → (∀ s7, Inv X pins (σ6.set i none) H6 s7 → Q s7) →
              wpAny (model X.prog X.w) X.A (do bindName X.env n .none; unbindBehindTheSuite X.env n pos') (fun _ s7 => Q s7) X.xe s6 := fun {σ6 H6 Q} S6 hq => gone_ok (S6.unsuite ok) hN hi hln hq
          cases f with
          | next =>
            obtain ⟨σ6, H6, S6, q6⟩ := hsp
            exact end_ S6 fun s7 J7 => ⟨_, _, J7, q6⟩
          | brk =>
            obtain ⟨σ6, H6, S6, q6⟩ := hsp
            exact end_ S6 fun s7 J7 => ⟨_, _, J7, q6⟩
          | cont =>
            obtain ⟨σ6, H6, S6, q6⟩ := hsp
            exact end_ S6 fun s7 J7 => ⟨_, _, J7, q6⟩
          | ret u =>
            obtain ⟨v6, σ6, H6, S6, r6, q6⟩ := hsp
            exact end_ S6 fun s7 J7 => ⟨_, _, _, J7, r6, q6⟩
        | false =>
          show wpAny _ X.A (handleBy (.ref a) X.env hds2) _ _ _
          exact ih (hno rfl)
    exact go hh w
  · cases f with
    | next =>
      obtain ⟨σ', H', J', q⟩ := hsp
      exact wpAny_execs_nil ⟨σ', H', J'.ofTry ok, q⟩
    | brk =>
      obtain ⟨σ', H', J', q⟩ := hsp
      exact ⟨σ', H', J'.ofTry ok, q⟩
    | cont =>
      obtain ⟨σ', H', J', q⟩ := hsp
      exact ⟨σ', H', J'.ofTry ok, q⟩
    | ret u =>
      obtain ⟨v, σ', H', J', r, q⟩ := hsp
      exact ⟨v, σ', H', J'.ofTry ok, r, q⟩
end
end L2
set_option Elab.async false
set_option linter.all false
set_option maxRecDepth 100000
set_option maxHeartbeats 2000000
namespace DL
open PySem PySem.Spec PyProof.Rows L2
/-! ### try: .. except E: .. -/
structure Hd where
  cls : Str
  slot : Option Nat
  run : Ex → Sm
def unsetE (s : Option Nat) (env : Env) : Env := match s with
  | none => env
  | some i => env.set i none
def offS (s : Option Nat) : Sr → Sr
  | .go f e m => .go f (unsetE s e) m
  | _ => .stuck
def catchL (sub : Str → Str → Option Bool) : List Hd → Ex → Sm
  | [], x => fun env m => .exc x env m
  | h :: r, x => fun env m => match sub x.cls h.cls with
    | some true => offS h.slot (h.run x (unsetE h.slot env) m)
    | some false => catchL sub r x env m
    | none => .stuck
def sTry (sub : Str → Str → Option Bool) (b : Sm) (hs : List Hd) : Sm := fun env m => match b env m with
  | .exc x e1 m1 => catchL sub hs x e1 m1
  | r => r
/-- what an except clause's suite starts from -/
def tsX (K : PySem.W.Frag) (slot : Option Nat) (run : Ex → Sm) (a : Addr) (cls : Value) (d : Option Addr) : TS := fun D σ H =>
  ∃ ι env m x, EnvOk K ι H env σ ∧ MemOk K ι m H ∧ ExOk K ι H x cls d ∧ (∀ i, slot = some i → i < σ.length → σ[i]? = some (some (.ref a))) ∧ PostS K W0 D ι H (run x env m)
section
variable {X : Cx} {W : L2.WX} {sub : Str → Str → Option Bool}
theorem EnvOk.unset2 {K : PySem.W.Frag} {ι : List Addr} {H : Hp} {env : Env} {σ : L2.St} (h : EnvOk K ι H env σ) (i : Nat) (o : Option V) : EnvOk K ι H (env.set i none) (σ.set i o) := by
  refine ⟨by simp [h.1], fun j u e => ?_⟩
  by_cases hj : j = i
  · subst hj
    have hl : j < env.length := by have := get_of e; rwa [List.length_set] at this
    rw [List.getElem?_set_self hl] at e
    cases e
  · rw [List.getElem?_set_ne (Ne.symm hj)] at e
    rw [List.getElem?_set_ne (Ne.symm hj)]
    exact h.2 j u e
inductive HdsD (X : Cx) : List ExceptHandler → List Hd → Prop
  | nil : HdsD X [] []
  | cons {x : Str} {fs : List Str} {run : Ex → Sm} {b₀ : Stmt} {suite : List Stmt} {np pos' : Pos} {hds : List ExceptHandler} {l : List Hd} (hg : Gl X x) (hdb : (x == ("__debug__" : Str)) = false) (hk : EcF X.K X.mg x fs)
      (hsu : ∀ (a : Addr) (oe : Obj) (cls : Value) (d : Option Addr) (pn : List (Addr × Obj)), Zc cls d oe → (∃ vs, oe.data = .fields vs) → PSs (X.suite a ((a, oe) :: pn)) (b₀ :: suite) (tsX X.K none run a cls d)) (r : HdsD X hds l) :
      HdsD X (.ExceptHandler (some (.Name x np)) none (b₀ :: suite) pos' :: hds) (⟨x, none, run⟩ :: l)
  | named {x n : Str} {fs : List Str} {i : Nat} {run : Ex → Sm} {b₀ : Stmt} {suite : List Stmt} {np pos' : Pos} {hds : List ExceptHandler} {l : List Hd} (hg : Gl X x) (hdb : (x == ("__debug__" : Str)) = false) (hk : EcF X.K X.mg x fs)
      (hi : X.N[i]? = some n) (hln : X.env.kindOf n = some .local)
      (hsu : ∀ (a : Addr) (oe : Obj) (cls : Value) (d : Option Addr) (pn : List (Addr × Obj)), Zc cls d oe → (∃ vs, oe.data = .fields vs) → PSs (X.suite a ((a, oe) :: pn)) (b₀ :: suite) (tsX X.K (some i) run a cls d)) (r : HdsD X hds l) :
      HdsD X (.ExceptHandler (some (.Name x np)) (some n) (b₀ :: suite) pos' :: hds) (⟨x, some i, run⟩ :: l)
theorem PostS.off {K : PySem.W.Frag} {ι : List Addr} {H : Hp} {D : Ends} {i : Nat} {r : Sr} (h : PostS K W D ι H (offS (some i) r)) : PostS K W0 (offE i D) ι H r := by
  cases r with
  | stuck => exact h.elim
  | exc x e m => exact (show False from h).elim
  | go f e m =>
    cases f with
    | nx => exact fun ι1 H1 σ1 st mo eo => h ι1 H1 (σ1.set i none) st mo (eo.unset2 i none)
    | bk => exact fun ι1 H1 σ1 st mo eo => h ι1 H1 (σ1.set i none) st mo (eo.unset2 i none)
    | ct => exact fun ι1 H1 σ1 st mo eo => h ι1 H1 (σ1.set i none) st mo (eo.unset2 i none)
    | rt w => exact fun ι1 H1 v st mo r => h ι1 H1 v st mo r
theorem PostS.off0 {K : PySem.W.Frag} {ι : List Addr} {H : Hp} {D : Ends} {r : Sr} (h : PostS K W D ι H (offS none r)) : PostS K W0 D ι H r := by
  cases r with
  | stuck => exact h.elim
  | exc x e m => exact (show False from h).elim
  | go f e m => cases f <;> exact h
theorem hdsD_mix (hsb : SubK X.K sub) {hds : List ExceptHandler} {hs : List Hd} (h : HdsD X hds hs) : ∃ l, HdsM X hds l ∧ ∀ (D : Ends) (ι : List Addr) (H : Hp) (σ : L2.St) (env : Env) (m : Mm) (x : Ex) (cls : Value) (d : Option Addr),
    EnvOk X.K ι H env σ → MemOk X.K ι m H → ExOk X.K ι H x cls d → PostS X.K W D ι H (catchL sub hs x env m) → wMix X.K W D l cls d σ H := by
  induction h with
  | nil => exact ⟨[], .nil, fun D ι H σ env m x cls d eo mo xo p => p ι H σ cls d .refl mo eo xo⟩
  | @cons x fs run b₀ suite np pos' hds l hg hdb hk hsu r ih =>
    obtain ⟨l', h', k'⟩ := ih
    refine ⟨(.ref (He.ga X.K x), none, tsX X.K none run) :: l', .cons ⟨hg, hdb, .inl hk.mgC⟩ hsu h', fun D ι H σ env m ex cls d eo mo xo p => ?_⟩
    obtain ⟨C0, hC0, rfl, hf⟩ := id xo
    have p' : PostS X.K W D ι H (match sub ex.cls x with
      | some true => offS none (run ex env m)
      | some false => catchL sub l ex env m
      | none => .stuck) := p
    cases e : sub ex.cls x with
    | none => rw [e] at p'; exact p'.elim
    | some b =>
      refine ⟨b, hsb _ _ _ _ _ e hC0 hk.ns, fun hb a ha => ?_, fun hb => ?_⟩
      · subst hb
        rw [e] at p'
        exact ⟨ι, env, m, ex, eo, mo, xo, fun i z => by (cases z), p'.off0⟩
      · subst hb
        rw [e] at p'
        exact k' D ι H σ env m ex _ d eo mo xo p'
  | @named x n fs i run b₀ suite np pos' hds l hg hdb hk hi hln hsu r ih =>
    obtain ⟨l', h', k'⟩ := ih
    refine ⟨(.ref (He.ga X.K x), some i, tsX X.K (some i) run) :: l', .named ⟨hg, hdb, .inl hk.mgC⟩ hi hln hsu h', fun D ι H σ env m ex cls d eo mo xo p => ?_⟩
    obtain ⟨C0, hC0, rfl, hf⟩ := id xo
    have p' : PostS X.K W D ι H (match sub ex.cls x with
      | some true => offS (some i) (run ex (env.set i none) m)
      | some false => catchL sub l ex env m
      | none => .stuck) := p
    cases e : sub ex.cls x with
    | none => rw [e] at p'; exact p'.elim
    | some b =>
      refine ⟨b, hsb _ _ _ _ _ e hC0 hk.ns, fun hb a ha => ?_, fun hb => ?_⟩
      · subst hb
        rw [e] at p'
        refine ⟨ι, env.set i none, m, ex, eo.unset2 i _, mo, xo, fun j z hj => ?_, p'.off⟩
        cases z
        rw [List.length_set] at hj
        exact List.getElem?_set_self hj
      · subst hb
        rw [e] at p'
        exact k' D ι H σ env m ex _ d eo mo xo p'
theorem ds_try {body : List Stmt} {h₀ : ExceptHandler} {hds : List ExceptHandler} {hs : List Hd} {pos : Pos} {b : Sm} (hst : X.stack = X.env :: X.outer) (hf : X.env.frame = some X.env.locals) (hN : X.N.Nodup) (tk : Takes X W) (hsb : SubK X.K sub)
    (hb : ∀ (W' : WX) (pn : List (Addr × Obj)) (xe : Value → Shared → Prop), Takes (X.tr pn xe) W' → PassesOwn (model X.prog X.w) X.A X.env xe → PSs (X.tr pn xe) body (tS X.K W' b)) (hh : HdsD X (h₀ :: hds) hs) :
    PS X (.Try body (h₀ :: hds) [] [] pos) (tS X.K W (sTry sub b hs)) := by
  obtain ⟨l, hl, k⟩ := hdsD_mix (W := W) hsb hh
  refine PSimp (ps_try_mix (tb := fun W' => tS X.K W' b) hst hf tk hb hN hl) fun D σ H ⟨ι, env, m, eo, mo, p⟩ => ⟨ι, env, m, eo, mo, ?_⟩
  have p' : PostS X.K W D ι H (match b env m with
    | .exc x e1 m1 => catchL sub hs x e1 m1
    | r => r) := p
  cases e : b env m with
  | stuck => rw [e] at p'; exact p'
  | go f e1 m1 => rw [e] at p'; cases f <;> exact p'
  | exc x e1 m1 =>
    rw [e] at p'
    exact fun ι1 H1 σ1 cls d st mo1 eo1 xo => k D ι1 H1 σ1 e1 m1 x cls d eo1 mo1 xo (PostS.step st p')
/-! ### suites -/
/-- one that does not look at the error -/
theorem hs_gen {Xs : Cx} {suite : List Stmt} {slot : Option Nat} {b : Sm} {a : Addr} {cls : Value} {d : Option Addr} (h : PSs Xs suite (tS Xs.K W0 b)) : PSs Xs suite (tsX Xs.K slot (fun _ => b) a cls d) :=
  PSsimp h fun D σ H ⟨ι, env, m, x, eo, mo, xo, hi, p⟩ => ⟨ι, env, m, eo, mo, p⟩
inductive Lf where
  | c (d : PyData) | f (n : Str)
def Lf.ev (x : Ex) : Lf → Option Wd
  | .c d => some (.d d)
  | .f n => x.fs.lookup n
def evL (x : Ex) : List Lf → Option (List Wd)
  | [] => some []
  | l :: r => match l.ev x, evL x r with
    | some w, some ws => some (w :: ws)
    | _, _ => none
def hTup (c : Str) (ls : List Lf) : Ex → Sm := fun x env m => if x.cls = c then (match evL x ls with
  | some ws => if ws.length ≤ LIM then .go (.rt (mkTup ws)) env m else .stuck
  | none => .stuck) else .stuck
def tLf (K : PySem.W.Frag) (a C : Addr) (cls : Value) (d : Option Addr) (i : Nat) : Lf → TE
  | .c x => fun σ H Q => ∀ v, RelD K H x v → Q v H
  | .f n => fun σ H Q => ∃ dd gs v, (i < σ.length → σ[i]? = some (some (.ref a))) ∧ cls = .ref C ∧ d = some dd ∧ H dd = some (.xd gs) ∧ gs.lookup n = some v ∧ Q v H
def tLfs (K : PySem.W.Frag) (a C : Addr) (cls : Value) (d : Option Addr) (i : Nat) : List Lf → TA
  | [] => tNil
  | l :: r => tCons (tLf K a C cls d i l) (tLfs K a C cls d i r)
theorem pe_lfF {a C : Addr} {oe : Obj} {cls : Value} {d : Option Addr} {pn : List (Addr × Obj)} {i : Nat} {n f : Str} {p pos : Pos} (T : XfC X.K C) (hno : PySem.W.findIn X.K (.ref C) f = some none) (hz : Zc cls d oe) (hf : ∃ vs, oe.data = .fields vs)
    (hN : X.N[i]? = some n) (hv : Vis X.env.scope n) (hd : (n == ("__debug__" : Str)) = false := by decide) (hcd : (n == ("__classdict__" : Str)) = false := by decide) (hb : attributeBase (.Name n p) f X.env (eval (.Name n p) X.env) = eval (.Name n p) X.env := by rfl) :
    PE (X.suite a ((a, oe) :: pn)) (.Attribute (.Name n p) f pos) (tLf X.K a C cls d i (.f f)) := by
  refine ⟨fun pins s σ H Q I h => ?_⟩
  obtain ⟨dd, gs, v, h1, h2, h3, h4, h5, h6⟩ := h
  have hl : i < σ.length := by rw [I.len]; exact get_of hN
  exact (pe_xf (X := X) (e := .Name n p) (te := tVar i) T hno hz hf (pe_var (X := X.suite a ((a, oe) :: pn)) hN hv hd hcd) hb).run pins s σ H Q I ⟨.ref a, h1 hl, rfl, h2, dd, gs, v, h3, h4, h5, h6⟩
theorem tLfs_go {K : PySem.W.Frag} {a C : Addr} {cls : Value} {d : Option Addr} {i : Nat} {ι : List Addr} {H : Hp} {σ : L2.St} {x : Ex} (xo : ExOk K ι H x cls d) (hC : cls = .ref C) (hi : i < σ.length → σ[i]? = some (some (.ref a))) :
    ∀ (ls : List Lf) (ws : List Wd) (Q : List V → Hp → Prop), evL x ls = some ws → (∀ vs, RelWs K ι H ws vs → Q vs H) → tLfs K a C cls d i ls σ H Q
  | [], ws, Q, e, k => by cases e; exact k [] .nil
  | l :: r, ws, Q, e, k => by
    unfold evL at e
    cases e1 : l.ev x with
    | none => rw [e1] at e; cases e
    | some w =>
      cases e2 : evL x r with
      | none => rw [e1, e2] at e; cases e
      | some ws' =>
        rw [e1, e2] at e
        cases e
        cases l with
        | c y =>
          cases e1
          exact fun v rv => tLfs_go xo hC hi r ws' _ e2 fun vs rs => k (v :: vs) (.cons (.d rv) rs)
        | f n =>
          obtain ⟨C0, hn0, hc0, hf⟩ := xo
          rcases hf with ⟨hf, _⟩ | ⟨dd, gs, hd, hH, hfs⟩
          · have e1' : x.fs.lookup n = some w := e1
            rw [hf] at e1'; cases e1'
          · have key : ∀ {fs : List (Str × Wd)} {gs : List (Str × V)}, FsOk K ι H fs gs → fs.lookup n = some w → ∃ v, gs.lookup n = some v ∧ RelW K ι H w v := by
              intro fs
              induction fs with
              | nil => intro gs _ e; cases e
              | cons q fs ih =>
                intro gs hfs e
                obtain ⟨f1, w1⟩ := q
                cases gs with
                | nil => exact hfs.elim
                | cons q2 gs =>
                  obtain ⟨g1, v1⟩ := q2
                  obtain ⟨rfl, r1, r2⟩ := hfs
                  by_cases h : n = f1
                  · subst h
                    simp [List.lookup] at e ⊢
                    subst e; exact r1
                  · have hb : (n == f1) = false := by simpa using h
                    simp [List.lookup, hb] at e ⊢
                    exact ih r2 e
            obtain ⟨v, hv, rv⟩ := key hfs e1
            exact ⟨dd, gs, v, hi, hC, hd, hH, hv, tLfs_go ⟨C0, hn0, hc0, .inr ⟨dd, gs, hd, hH, hfs⟩⟩ hC hi r ws' _ e2 fun vs rs => k (v :: vs) (.cons rv rs)⟩
/-- return (const | e.f, ..) -/
theorem hs_tup {a C : Addr} {oe : Obj} {cls : Value} {d : Option Addr} {pn : List (Addr × Obj)} {i : Nat} {c : Str} {ls : List Lf} {es : List Expr} {x1 pos pos'} (hn : PySem.W.nsIn X.K mainGlobals c = some (some (.ref C))) (h : PA (X.suite a ((a, oe) :: pn)) es (tLfs X.K a C cls d i ls)) :
    PSs (X.suite a ((a, oe) :: pn)) [.Return (some (.Tuple es x1 pos)) pos'] (tsX X.K (some i) (hTup c ls) a cls d) := by
  refine PSsimp (pss_one (ps_ret (pe_tup h))) fun D σ H ⟨ι, env, m, x, eo, mo, xo, hi, p⟩ => ?_
  have p' : PostS X.K W0 D ι H (if x.cls = c then (match evL x ls with
    | some ws => if ws.length ≤ LIM then .go (.rt (mkTup ws)) env m else .stuck
    | none => .stuck) else .stuck) := p
  by_cases hc : x.cls = c
  · rw [if_pos hc] at p'
    cases e : evL x ls with
    | none => rw [e] at p'; exact p'.elim
    | some ws =>
      rw [e] at p'
      simp only [] at p'
      by_cases hl : ws.length ≤ LIM
      · rw [if_pos hl] at p'
        have hC : cls = .ref C := by
          obtain ⟨C0, h1, h2, _⟩ := id xo
          rw [hc, hn] at h1
          cases h1
          exact h2
        refine tLfs_go xo hC (hi i rfl) ls ws _ e fun vs rs => ⟨by rw [← rs.length, ← LIM_eq]; exact hl, fun q hq => ?_⟩
        exact p' ι _ _ (stp_tup hq) (mo.tup hq) (mkTup_ok (SqT.of upd_same) (rs.step mo.apart (stp_tup hq)))
      · rw [if_neg hl] at p'; exact p'.elim
  · rw [if_neg hc] at p'; exact p'.elim
theorem pe_lfS {a C : Addr} {cls : Value} {d : Option Addr} {i : Nat} {s : Str} {j pos} : PE X (.Constant (.str s) j pos) (tLf X.K a C cls d i (.c (.str s))) := PEimp pe_str fun σ H Q h => h _ (.str s)
theorem pe_lfI {a C : Addr} {cls : Value} {d : Option Addr} {i : Nat} {s : Int} {j pos} : PE X (.Constant (.int s) j pos) (tLf X.K a C cls d i (.c (.int s))) := PEimp pe_int fun σ H Q h => h _ (.int s)
theorem pe_lfB {a C : Addr} {cls : Value} {d : Option Addr} {i : Nat} {s : Bool} {j pos} : PE X (.Constant (.bool s) j pos) (tLf X.K a C cls d i (.c (.bool s))) := PEimp pe_bl fun σ H Q h => h _ (.bl s)
theorem pe_lfN {a C : Addr} {cls : Value} {d : Option Addr} {i : Nat} {j pos} : PE X (.Constant .none j pos) (tLf X.K a C cls d i (.c .none)) := PEimp pe_non fun σ H Q h => h _ .non
end
end DL
set_option Elab.async false
set_option linter.all false
set_option maxRecDepth 100000
set_option maxHeartbeats 2000000
namespace DL
open PySem PySem.Spec PyProof.Rows L2
/-- the i-th statement of a class -/
def clsStm (st : Stmt) (i : Nat) : Stmt := match st with
  | .ClassDef (body := b) .. => b.getD i (.Pass ⟨0, 0, 0, 0⟩)
  | _ => .Pass ⟨0, 0, 0, 0⟩
theorem iniFree {l : List (Str × NameKind)} (h : ∀ p ∈ l, p.2 = .free → p.1 = ("__class__" : Str)) : ∀ y, l.lookup y = some .free → y = ("__class__" : Str) := fun y e => h _ (PySem.mem_of_lookup e) rfl
theorem ini_no {K : PySem.W.Frag} {C : Addr} {fs : List (Str × Nat)} {d : List Str} {n : Nat} (h : ∀ f ∈ d, PySem.W.findIn K (.ref C) f = some none) (e : fs.map (·.1) = d) (b : ∀ p ∈ fs, p.2 < n) : ∀ p ∈ fs, PySem.W.findIn K (.ref C) p.1 = some none ∧ p.2 < n :=
  fun p hp => ⟨h _ (by rw [← e]; exact List.mem_map_of_mem hp), b p hp⟩
end DL
set_option Elab.async false
set_option linter.all false
set_option maxRecDepth 100000
set_option maxHeartbeats 2000000
namespace DL
open PySem PySem.Spec PyProof.Rows L2
/-- *e in a display -/
def aS (f : Em Wd) (r : Em (List Wd)) : Em (List Wd) := fun env m => (f env m).bind fun w m1 => match seqOf m1 w with
  | some xs => (r env m1).bind fun ys m2 => .ok (xs ++ ys) m2
  | none => .stuck
def minO2 : OpN := fun ws m => match ws with
  | [.d (.int i), .d (.int j)] => some (.d (.int (if j < i then j else i)), m)
  | _ => none
/-- xs[::-1] -/
def eRev (f : Em Wd) : Em Wd := fun env m => (f env m).bind fun w m1 => match w with
  | .ref n => match m1.cells[n]? with
    | some (.lst xs) => .ok (.ref m1.cells.length) (m1.push (.lst xs.reverse))
    | _ => .stuck
  | _ => .stuck
theorem relWs_reverse {K : PySem.W.Frag} {ι : List Addr} {H : Hp} : ∀ {ws : List Wd} {vs : List V}, RelWs K ι H ws vs → RelWs K ι H ws.reverse vs.reverse
  | _, _, .nil => .nil
  | _, _, .cons r rs => by
    rw [List.reverse_cons, List.reverse_cons]
    exact (relWs_reverse rs).append (.cons r .nil)
section
variable {X : Cx} {W : L2.WX}
theorem da_star {e : Expr} {es : List Expr} {p : Pos} {f : Em Wd} {g : Em (List Wd)} (h : PE X e (tE X.K W f)) (hr : PA X es (tA X.K W g)) (hs : starEach (.Starred e p :: es) X.env = (true, eval e X.env) :: starEach es X.env := by rfl) :
    PA X (.Starred e p :: es) (tA X.K W (aS f g)) :=
  PAimp (StX.pa_star h hr hs) fun σ H Q ⟨ι, env, m, eo, mo, p⟩ => Post.bind eo mo p fun ι1 H1 w x m1 st1 mo1 eo1 ra p1 => by
    cases e : seqOf m1 w with
    | none => rw [e] at p1; exact p1.elim
    | some ws =>
      rw [e] at p1
      obtain ⟨a, vs, rfl, h1, rv⟩ := seqOf_ok mo1 e ra
      exact ⟨a, vs, rfl, h1.symm, Post.bind eo1 mo1 p1 fun ι2 H2 b y m2 st2 mo2 eo2 rb p2 => post_ok p2 mo2 ((rv.step mo1.apart st2).append rb)⟩
theorem o_min2 (hc : X.calm = true) : CallR X (.builtin "min") (rON X.K minO2) := by
  refine CallRimp (call_min2 hc) fun xs H Q ⟨ι, m, ws, mo, ra, p⟩ => ?_
  unfold minO2 at p
  split at p
  · rename_i i j
    cases ra with
    | cons r1 r2 =>
      cases r2 with
      | cons r2 r3 =>
        cases r3
        rw [relW_int r1, relW_int r2]
        exact ⟨i, j, rfl, post_ok p mo (.d (.int _))⟩
  · exact p.elim
theorem de_revL {e : Expr} {f : Em Wd} {k : Nat} {p1 p2 p3 pos : Pos} (h : PE X e (tE X.K W f)) : PE X (.Subscript e (.Slice none none (some (.UnaryOp .USub (.Constant (.int 1) k p1) p2)) p3) pos) (tE X.K W (eRev f)) :=
  PEimp (pe_revL h) fun σ H Q ⟨ι, env, m, eo, mo, p⟩ => Post.bind eo mo p fun ι1 H1 w x m1 st1 mo1 eo1 ra p1 => by
    cases w with
    | ref n =>
      cases ra with
      | ref hi =>
        have p2 : Post X.K W (RelW X.K) ι1 H1 σ Q (match m1.cells[n]? with
          | some (.lst xs) => .ok (.ref m1.cells.length) (m1.push (.lst xs.reverse))
          | _ => .stuck) := p1
        cases e : m1.cells[n]? with
        | none => rw [e] at p2; exact p2.elim
        | some c =>
          rw [e] at p2
          cases c with
          | lst xs =>
            obtain ⟨vs, h1, h2⟩ := mo1.cell n _ _ hi e
            exact ⟨_, vs, rfl, .inl (.inl h1), fun q hq => let ⟨a, b⟩ := cell_new mo1 hq (relWs_reverse h2); p2 _ _ _ (stp_new hq) a b⟩
          | dct kvs => exact p2.elim
          | ins c fs => exact p2.elim
          | tab x q => exact p2.elim
    | _ => exact p1.elim
end
end DL
set_option Elab.async false
set_option linter.all false
set_option maxRecDepth 100000
set_option maxHeartbeats 2000000
namespace DL
open PySem PySem.Spec PyProof.Rows L2
/-- sep.join(xs) -/
def joinR (a : Str) (y : Wd) (m : Mm) : Option (Wd × Mm) := match seqOf m y with
  | some xs => match strsW xs with
    | some ys => if (ys.map (·.length)).sum + ys.length * a.length ≤ 16777216 then some (.d (.str (Txt.join a ys)), m) else none
    | none => none
  | none => none
def eJoin (fo fe : Em Wd) : Em Wd := fun env m => (fo env m).bind fun w m1 => match w with
  | .d (.str a) => (fe env m1).bind fun y m2 => Rs.of (joinR a y m2)
  | _ => .stuck
section
variable {X : Cx} {W : L2.WX}
theorem de_join {o e : Expr} {apos pos : Pos} {fo fe : Em Wd} (ho : PE X o (tE X.K W fo)) (he : PE X e (tE X.K W fe)) (hs : starEach [e] X.env = [(false, eval e X.env)] := by rfl) (hbase : attributeBase o "join" X.env (eval o X.env) = eval o X.env := by rfl) (hline : (apos.endLine == pos.line) = true := by rfl) :
    PE X (.Call (.Attribute o "join" apos) [e] [] pos) (tE X.K W (eJoin fo fe)) :=
  PEimp (pe_join ho he hs hbase hline) fun σ H Q ⟨ι, env, m, eo, mo, p⟩ => Post.bind eo mo p fun ι1 H1 w x m1 st1 mo1 eo1 ra p1 => by
    split at p1
    · rename_i a
      refine ⟨⟨a, relW_str ra⟩, Post.bind eo1 mo1 p1 fun ι2 H2 y v m2 st2 mo2 eo2 rb p2 => ?_⟩
      unfold joinR at p2
      split at p2
      · rename_i xs e1
        split at p2
        · rename_i ys e2
          split at p2
          · rename_i hl
            obtain ⟨b, vs, rfl, h1, rv⟩ := seqOf_ok mo2 e1 rb
            have ev := strs_ok rv e2
            subst ev
            exact ⟨a, b, ys, relW_str ra, rfl, h1, hl, post_ok p2 mo2 (.d (.str _))⟩
          · exact p2.elim
        · exact p2.elim
      · exact p2.elim
    · exact p1.elim
end
end DL
set_option Elab.async false
set_option linter.all false
set_option maxRecDepth 100000
set_option maxHeartbeats 2000000
namespace DL
open PySem PySem.Spec PyProof.Rows L2
theorem fm_congr {α β : Type} {f g : α → Option β} : ∀ {l : List α}, (∀ a ∈ l, f a = g a) → l.filterMap f = l.filterMap g
  | [], _ => rfl
  | a :: l, h => by
    rw [List.filterMap_cons, List.filterMap_cons, h a (List.mem_cons_self ..), fm_congr fun b hb => h b (List.mem_cons_of_mem _ hb)]
theorem fm_some {α β : Type} (f : α → β) : ∀ l : List α, l.filterMap (fun a => some (f a)) = l.map f
  | [] => rfl
  | a :: l => by rw [List.filterMap_cons, List.map_cons, fm_some f l]
theorem range_rev (xs : Array Value) : ∀ n : Nat, n = xs.size → ((List.range n).filterMap fun (m : Nat) => xs[(((n : Int) - 1) + (m : Int) * (-1)).toNat]?) = xs.toList.reverse := by
  intro n hn
  have e : ∀ m ∈ List.range n, xs[(((n : Int) - 1) + (m : Int) * (-1)).toNat]? = some ((xs.toList.reverse)[m]?.getD .none) := fun m hm => by
    have hm' := List.mem_range.mp hm
    have h1 : (((n : Int) - 1) + (m : Int) * (-1)).toNat = n - 1 - m := by omega
    rw [h1, List.getElem?_reverse (by rw [Array.length_toList]; omega), Array.length_toList, ← hn, Array.getElem?_toList]
    rw [Array.getElem?_eq_getElem (by omega)]
    rfl
  rw [fm_congr e, fm_some]
  refine List.ext_getElem? fun i => ?_
  rw [List.getElem?_map]
  by_cases hi : i < n
  · rw [List.getElem?_range hi]
    have : i < xs.toList.reverse.length := by rw [List.length_reverse, Array.length_toList]; omega
    rw [List.getElem?_eq_getElem this, Option.map_some, List.getElem?_eq_getElem this]
    rfl
  · rw [List.getElem?_eq_none (by simpa using hi), List.getElem?_eq_none (by rw [List.length_reverse, Array.length_toList]; omega)]
    rfl
theorem sliceApplied_rev {prog : Program} {w : World} {A : Around} {E : Value → Shared → Prop} {s : Shared} {sl : Addr} {tk : Tok} {n : Nat} {Q : Int × Int × Nat → Shared → Prop} (hs : s.heap.IsSliceOf sl .none .none (.int (-1) tk))
    (h : Q ((n : Int) - 1, -1, n) s) : wpAny (model prog w) A (Builtin.Slice.sliceApplied (.ref sl) (pure (n : Int))) Q E s := by
  obtain ⟨os, hos, hcs, hds⟩ := id hs
  unfold Builtin.Slice.sliceApplied Builtin.Slice.sliceFields
  refine wpAny_bind (wpAny_bind (wpAny_field hos hds (x := .none) rfl (wpAny_bind (wpAny_field hos hds (x := .none) rfl (wpAny_bind (wpAny_field hos hds (x := .int (-1) tk) rfl (wpAny_pure ?_)))))))
  refine wpAny_bind (HT.slicePart_ (.int (-1) tk) ?_)
  show wpAny _ _ (if ((-1 : Int) == 0) = true then _ else _) _ _ s
  rw [if_neg (by decide)]
  refine wpAny_bind (HT.slicePart_ .none (wpAny_bind (HT.slicePart_ .none (wpAny_bind (wpAny_pure ?_)))))
  show wpAny _ _ (match Builtin.Slice.sliceAdjust none none (-1) (n : Int) with | (lo, hi) => pure (lo, (-1 : Int), Builtin.Slice.slicePlaces lo hi (-1))) _ _ s
  have e1 : Builtin.Slice.sliceAdjust none none (-1) (n : Int) = ((n : Int) - 1, -1) := by
    unfold Builtin.Slice.sliceAdjust
    simp
  rw [e1]
  have e2 : Builtin.Slice.slicePlaces ((n : Int) - 1) (-1) (-1) = n := by
    unfold Builtin.Slice.slicePlaces
    simp
    try omega
  show wpAny _ _ (pure ((n : Int) - 1, (-1 : Int), Builtin.Slice.slicePlaces ((n : Int) - 1) (-1) (-1))) _ _ s
  rw [e2]
  exact wpAny_pure h
open PySem.Calls in
theorem getItem_tuple_rev {prog : Program} {w : World} {A : Around} {E : Value → Shared → Prop} {s : Shared} {t sl : Addr} {items : Array Value} {tk : Tok} {Q : Value → Shared → Prop} (ht : IsTup s.heap t items) (hs : s.heap.IsSliceOf sl .none .none (.int (-1) tk))
    (h : Q (.ref s.heap.objs.size) { s with heap := s.heap.push { cls := .type "tuple", data := .seq items.toList.reverse.toArray } }) (hsz : items.size ≤ sizeLine) : wpAny (model prog w) A (getItem (.ref t) (.ref sl)) Q E s := by
  have htake : sizeOk (.seq items.toList.reverse.toArray) := by
    show items.toList.reverse.toArray.size ≤ sizeLine
    rw [List.size_toArray, List.length_reverse, Array.length_toList]
    exact hsz
  obtain ⟨os, hos, hcs, hds⟩ := id hs
  have hTs : s.TypeIs (.ref sl) "slice" := ⟨os, hos, hcs⟩
  unfold getItem
  try with_reducible refine wpAny_holding ?_
  first | refine wpAny_bind (wpAny_pure ?_) | skip
  refine wpAny_bind (wpAny_sequenceKey ht.typeIs (by decide) ?_)
  refine wpAny_bind (wpAny_callSpecial?_slot (name := Str.ofString "__getitem__") ht.typeIs PyProof.Rows.slot_tuple_getitem
    (wpAny_call_entry PyProof.Rows.slot_tuple_getitem ht.typeIs entry_tuple_getitem ?_ (args_tuple_getitem _ _)))
  show wpAny _ _ (Builtin.Tuple.tupleItemsOf (.ref t) >>= _) _ _ s
  refine wpAny_bind (tupleItemsOf_ ht ?_)
  refine wpAny_bind (wpAny_typeOf hTs ?_)
  rw [if_pos (by decide)]
  refine wpAny_bind (sliceApplied_rev hs ?_)
  show wpAny _ _ (if (((items.size : Int) - 1) == 0 && (-1 : Int) == 1 && items.size == items.size) = true then _ else _) _ _ s
  rw [if_neg (by simp), range_rev items _ rfl]
  first
    | exact wpAny_bind (m := Builtin.Tuple.tupleExact _) (wpAny_newObj_type (wpAny_pure ⟨_, rfl, wpAny_pure h⟩) htake)
    | exact wpAny_bind (m := Builtin.Tuple.tupleExact _) (wpAny_newObj_type (wpAny_bind (wpAny_pure (wpAny_pure ⟨_, rfl, wpAny_pure h⟩))) htake)
    | exact wpAny_bind (wpAny_bind (m := Builtin.Tuple.tupleExact _) (wpAny_newObj_type (wpAny_pure (wpAny_pure ⟨_, rfl, wpAny_pure h⟩)) htake))
    | exact wpAny_bind (wpAny_bind (m := Builtin.Tuple.tupleExact _) (wpAny_newObj_type (wpAny_pure ⟨_, rfl, wpAny_pure h⟩) htake))
/-! ### t[::-1] of a tuple -/
def tRevT (K : PySem.W.Frag) (te : TE) : TE := fun σ H Q => te σ H fun x H1 => ∃ a xs, x = .ref a ∧ SqT K H1 a xs ∧ ∀ p, H1 p = none → Q (.ref p) (upd H1 p (.tup xs.reverse))
section
variable {X : Cx} {W : L2.WX}
theorem pe_revT {e : Expr} {te : TE} {k : Nat} {p1 p2 p3 pos : Pos} (he : PE X e te) : PE X (.Subscript e (.Slice none none (some (.UnaryOp .USub (.Constant (.int 1) k p1) p2)) p3) pos) (tRevT X.K te) := by
  refine ⟨fun pins s σ H Q I h => ?_⟩
  refine Subscript_ (thn (he.run pins s σ H _ I h) fun v s1 ⟨x, H1, I1, r1, q1⟩ => ?_)
  obtain ⟨a, xs, ex, hx, q⟩ := q1
  subst ex
  obtain rfl : v = Value.ref a := r1
  have hst : PO X (some (.UnaryOp .USub (.Constant (.int 1) k p1) p2)) (tPart (tUn (rU fun i => .int (-i)) (tC (.int 1)))) := po_some (pe_un un_neg pe_int)
  refine wpAny_Slice (thn (po_none.run pins s1 σ H1 (fun o H2 => o = none ∧ H2 = H1) I1 ⟨rfl, rfl⟩) fun vl s2 ⟨l, H2, I2, pl, el, e2⟩ => ?_)
  subst el e2
  refine thn (po_none.run pins s2 σ H2 (fun o H3 => o = none ∧ H3 = H2) I2 ⟨rfl, rfl⟩) fun vu s3 ⟨u, H3, I3, pu, eu, e3⟩ => ?_
  subst eu e3
  refine thn (hst.run pins s3 σ H3 (fun o H4 => o = some (-1) ∧ H4 = H3) I3 ⟨1, rfl, -1, rfl, rfl, rfl⟩) fun vs s4 ⟨o, H4, I4, ps, eo, e4⟩ => ?_
  subst eo e4
  have I5 : Inv X pins σ H4 { s4 with heap := s4.heap.push { cls := .type "slice", data := .fields #[vl, vu, vs] } } := I4.kept (t' := s4.toks) fun b ob q => Heap.get?_push_of_some _ q
  obtain ⟨its, r, ht, hz⟩ := I5.tuple hx
  have hlen := r.length
  cases pl
  cases pu
  cases ps with
  | int i tk =>
  show wpAny (model X.prog X.w) X.A (subscriptTail e (.Slice none none (some (.UnaryOp .USub (.Constant (.int 1) k p1) p2)) p3) (.ref a) (.ref s4.heap.objs.size)) (EP X pins σ Q) X.xe { s4 with heap := s4.heap.push { cls := .type "slice", data := .fields #[.none, .none, .int (-1) tk] } }
  refine tail_any (ops := [.ref a, .ref s4.heap.objs.size]) ht.typeIs (PyProof.Rows.slot_tuple_getitem.lookup) ?_ (by with_unfolding_all rfl)
  refine getItem_tuple_rev ht (Heap.IsSliceOf.new _ .none .none (.int (-1) tk)) ?_ (by rw [List.size_toArray]; omega)
  refine ⟨.ref _, _, I5.laid (t' := s4.toks) (o := .tup xs.reverse) (fun b ob q => Heap.get?_push_of_some _ q) (Nat.le_refl _) ?_, rfl, q _ (I5.hok.fresh (Nat.le_refl _))⟩
  exact ⟨by rw [List.length_reverse]; exact hz, its.reverse, r.reverse, ⟨_, Heap.get?_push_size _ rfl, rfl, _, rfl⟩⟩
/-- x[::-1], a list or a tuple -/
def eRv (f : Em Wd) : Em Wd := fun env m => (f env m).bind fun w m1 => match w with
  | .ref n => match m1.cells[n]? with
    | some (.lst xs) => .ok (.ref m1.cells.length) (m1.push (.lst xs.reverse))
    | _ => .stuck
  | w => match tupOf w with
    | some xs => .ok (mkTup xs.reverse) m1
    | none => .stuck
theorem de_rev {e : Expr} {f : Em Wd} {k : Nat} {p1 p2 p3 pos : Pos} (h : PE X e (tE X.K W f)) : PE X (.Subscript e (.Slice none none (some (.UnaryOp .USub (.Constant (.int 1) k p1) p2)) p3) pos) (tE X.K W (eRv f)) := by
  refine ⟨fun pins s σ H Q I hh => ?_⟩
  obtain ⟨ι, env, m, eo, mo, p⟩ := hh
  have p' : Post X.K W (RelW X.K) ι H σ Q ((f env m).bind fun w m1 => match w with
    | .ref n => match m1.cells[n]? with
      | some (.lst xs) => .ok (.ref m1.cells.length) (m1.push (.lst xs.reverse))
      | _ => .stuck
    | w => match tupOf w with
      | some xs => .ok (mkTup xs.reverse) m1
      | none => .stuck) := p
  have tup : ∀ (w : Wd) (m1 : Mm), f env m = .ok w m1 → (∀ n, w ≠ .ref n) → wpAny (model X.prog X.w) X.A (eval (.Subscript e (.Slice none none (some (.UnaryOp .USub (.Constant (.int 1) k p1) p2)) p3) pos) X.env) (EP X pins σ Q) X.xe s := fun w m1 ef hw => by
    refine (pe_revT h).run pins s σ H Q I ⟨ι, env, m, eo, mo, ?_⟩
    rw [ef] at p' ⊢
    intro ι1 H1 v st1 mo1 ra
    have p2 : Post X.K W (RelW X.K) ι H σ Q (match tupOf w with
      | some xs => .ok (mkTup xs.reverse) m1
      | none => .stuck) := by
      cases w with
      | ref n => exact absurd rfl (hw n)
      | _ => exact p'
    cases e2 : tupOf w with
    | none => rw [e2] at p2; exact p2.elim
    | some xs =>
      rw [e2] at p2
      obtain ⟨a, vs, rfl, h1, rv⟩ := tupOf_ok e2 ra
      exact ⟨a, vs, rfl, h1, fun q hq => p2 ι1 _ _ (st1.trans (stp_tup hq)) (mo1.tup hq) (mkTup_ok (SqT.of upd_same) ((relWs_reverse rv).step mo1.apart (stp_tup hq)))⟩
  cases ef : f env m with
  | stuck => rw [ef] at p'; exact p'.elim
  | exc x m1 =>
    rw [ef] at p'
    exact (pe_revT h).run pins s σ H Q I ⟨ι, env, m, eo, mo, by rw [ef]; exact p'⟩
  | ok w m1 =>
    cases w with
    | ref n => exact (de_revL h).run pins s σ H Q I ⟨ι, env, m, eo, mo, by unfold eRev; rw [ef]; rw [ef] at p'; exact p'⟩
    | d x => exact tup _ m1 ef fun n z => by cases z
    | tup x => exact tup _ m1 ef fun n z => by cases z
    | rol x => exact tup _ m1 ef fun n z => by cases z
    | v x => exact tup _ m1 ef fun n z => by cases z
end
end DL
set_option Elab.async false
set_option linter.all false
set_option maxRecDepth 100000
/-! int(t, 2): turned from the kit's int(t, 16), step by step -/
namespace L2
open PySem PySem.Spec PyProof.Rows
namespace Bx
open PySem.NumText PySem.Calls
def IsBit (c : Nat) : Prop := c = 48 ∨ c = 49
def bitNum (l : List Nat) : Nat := l.foldl (fun a c => a * 2 + (c - 48)) 0
theorem digit_bin {c : Nat} (h : IsBit c) : digit? c = some (c - 48) := by
  unfold IsBit at h
  unfold digit?
  rw [if_pos (Hx.bb (show 48 ≤ c by omega) (show c ≤ 57 by omega))]
theorem bin_rng {c : Nat} (h : IsBit c) : 48 ≤ c ∧ c ≤ 49 ∧ c ≠ 95 := by
  unfold IsBit at h
  exact ⟨by omega, by omega, by omega⟩
theorem step_bin {ds : Array Nat} {b : Bool} {c : Nat} (h : IsBit c) : PySem.NumText.step 2 (ds, b) c = some (ds.push (c - 48), true) := by
  have hr := bin_rng h
  unfold PySem.NumText.step
  rw [if_neg (by rw [beq_iff_eq]; exact hr.2.2), digit_bin h]
  exact if_pos (show c - 48 < 2 by have := hr.2.1; omega)
theorem foldl_bin : ∀ (cs : List Nat) (ds : Array Nat), (∀ c ∈ cs, IsBit c) → cs.foldlM (PySem.NumText.step 2) (ds, true) = some (cs.foldl (fun acc c => acc.push (c - 48)) ds, true)
  | [], _, _ => rfl
  | c :: cs, ds, h => by
    rw [List.foldlM_cons, step_bin (h c (List.mem_cons_self ..))]
    show cs.foldlM (PySem.NumText.step 2) (ds.push (c - 48), true) = _
    exact foldl_bin cs (ds.push (c - 48)) fun d hd => h d (List.mem_cons_of_mem _ hd)
theorem digits_bin {cs : List Nat} (h : ∀ c ∈ cs, IsBit c) (hne : cs ≠ []) : digits? 2 cs = some (cs.foldl (fun acc c => acc.push (c - 48)) #[]) := by
  cases cs with
  | nil => exact absurd rfl hne
  | cons c cs =>
    unfold digits?
    rw [List.foldlM_cons, step_bin (h c (List.mem_cons_self ..))]
    show (cs.foldlM (PySem.NumText.step 2) ((#[] : Array Nat).push (c - 48), true)).bind _ = _
    rw [foldl_bin cs _ fun d hd => h d (List.mem_cons_of_mem _ hd)]
    rfl
theorem push_bin : ∀ (cs : List Nat) (ds : Array Nat), (cs.foldl (fun acc c => acc.push (c - 48)) ds).foldl (fun acc d => acc * 2 + d) 0 = cs.foldl (fun a c => a * 2 + (c - 48)) (ds.foldl (fun acc d => acc * 2 + d) 0)
  | [], _ => rfl
  | c :: cs, ds => by
    rw [List.foldl_cons, push_bin cs (ds.push (c - 48)), List.foldl_cons]
    congr 1
    simp
theorem dropB {cs : List Nat} (h : ∀ c ∈ cs, IsBit c) : cs.dropWhile blank = cs := by
  cases cs with
  | nil => rfl
  | cons c cs => exact dropWhile_of (by have := bin_rng (h c (List.mem_cons_self ..)); omega)
theorem signH {cs : List Nat} (h : ∀ c ∈ cs, IsBit c) : sign cs = (false, cs) := by
  cases cs with
  | nil => rfl
  | cons c cs =>
    have := bin_rng (h c (List.mem_cons_self ..))
    exact sign_of (by omega) (by omega)
/-- what a text of digits begins with, told by its own name -/
def pre2 : List Nat → Option Nat
  | 48 :: c :: _ => if c == 120 || c == 88 then some 16 else if c == 111 || c == 79 then some 8 else if c == 98 || c == 66 then some 2 else none
  | _ => none
theorem prefH {cs : List Nat} (h : ∀ c ∈ cs, IsBit c) : ∀ p, pre2 cs = some p → p ≠ 2 := by
  intro p hp
  match cs, h, hp with
  | [], _, hp => cases (show (none : Option Nat) = some p from hp)
  | [a], _, hp =>
    unfold pre2 at hp
    split at hp
    · rename_i e
      cases e
    · cases hp
  | a :: c :: r, h, hp =>
    have hc := h c (List.mem_cons_of_mem _ (List.mem_cons_self ..))
    unfold IsBit at hc
    by_cases ha : a = 48
    · subst ha
      have e : pre2 (48 :: c :: r) = if (c == 120 || c == 88) = true then some 16 else if (c == 111 || c == 79) = true then some 8 else if (c == 98 || c == 66) = true then some 2 else none := rfl
      rw [e, if_neg (by rw [Bool.or_eq_true, beq_iff_eq, beq_iff_eq]; omega), if_neg (by rw [Bool.or_eq_true, beq_iff_eq, beq_iff_eq]; omega), if_neg (by rw [Bool.or_eq_true, beq_iff_eq, beq_iff_eq]; omega)] at hp
      cases hp
    · unfold pre2 at hp
      split at hp
      · rename_i e
        exact absurd (List.cons.inj e).1 ha
      · cases hp
theorem basedH {cs : List Nat} (h : ∀ c ∈ cs, IsBit c) : based 2 cs = (2, false, cs) := by
  have hp := prefH h
  unfold based
  split
  · rename_i p e
    have hne : ((2 : Nat) == 0 || (2 : Nat) == p) = false := Bool.or_eq_false_iff.mpr ⟨rfl, beq_eq_false_iff_ne.mpr fun z => hp p (show pre2 cs = some p from e) z.symm⟩
    show (if ((2 : Nat) == 0 || (2 : Nat) == p) = true then _ else (2, false, cs)) = (2, false, cs)
    rw [hne] <;> rfl
  · rfl
theorem read_bin {cs : List Nat} (h : ∀ c ∈ cs, IsBit c) (hne : cs ≠ []) : (int_private% "readNumeral") 0 2 cs = (int_private% "Numeral.value") ((bitNum cs : Nat) : Int) := by
  have hr : ∀ c ∈ cs.reverse, IsBit c := fun c hc => h c (List.mem_reverse.mp hc)
  refine (readNumeral_eq 0 2 cs).trans ?_
  rw [dropB h, signH h]
  show judge 0 false (based 2 cs).1 (based 2 cs).2.1 (digits? (based 2 cs).1 (((based 2 cs).2.2.reverse.dropWhile blank).reverse)) = _
  rw [basedH h]
  show judge 0 false 2 false (digits? 2 ((cs.reverse.dropWhile blank).reverse)) = _
  rw [dropB hr, List.reverse_reverse, digits_bin h hne]
  show (int_private% "Numeral.value") (((cs.foldl (fun acc c => acc.push (c - 48)) (#[] : Array Nat)).foldl (fun acc d => acc * 2 + d) 0 : Nat) : Int) = _
  have z : (#[] : Array Nat).foldl (fun acc d => acc * 2 + d) 0 = 0 := by first | rfl | simp
  rw [push_bin, z] <;> rfl
theorem seen_bin {x : Str} (h : ∀ c ∈ x.cps.toList, IsBit c) : numTextOf x = x.cps.toList ∧ numSeenOf x = x.cps.toList := by
  have e1 : numTextOf x = x.cps.toList := by
    refine if_pos ?_
    rw [← Array.all_toList, List.all_eq_true]
    intro c hc
    have := bin_rng (h c hc)
    exact decide_eq_true (by omega)
  refine ⟨e1, ?_⟩
  show (numTextOf x).takeWhile _ = _
  rw [e1]
  refine takeWhile_all fun c hc => ?_
  have := bin_rng (h c hc)
  exact bne_iff_ne.mpr (by omega)

set_option maxHeartbeats 4000000 in
theorem gives_bin {x : PySem.Str} {u t : Tok} (hl : x.length ≤ 640) (h : ∀ c ∈ x.cps.toList, IsBit c) (hne : x.cps.toList ≠ []) :
    Gives (Builtin.«int.__new__» ⟨[.type "int", .str x u, .int 2 t], []⟩) (.int ((bitNum x.cps.toList : Nat) : Int)) :=
  .of_wp fun M A E s Q hQ => by
    obtain ⟨hp, g, d, tk, os⟩ := s
    have f1 := F.conv_sub_int
    have f2 := F.madeHere_int
    have f6 : typeOf (.str x u) = pure (.type "str") := rfl
    obtain ⟨e1, e2⟩ := seen_bin h
    have hs : (numSeenOf x).length ≤ 640 := by
      rw [e2, Array.length_toList]
      exact hl
    have hr : (int_private% "readNumeral") 0 2 (numSeenOf x) = (int_private% "Numeral.value") ((bitNum x.cps.toList : Nat) : Int) := by
      rw [e2]
      exact read_bin h hne
    have ha : ((numSeenOf x).length == (numTextOf x).length) = true := by
      rw [e1, e2]
      exact beq_self_eq_true _
    have hk := Hx.Hid.mk (And.intro hs (And.intro hr ha))
    clear hs hr ha e1 e2 hl hne h
    repeat (any_goals (first
      | assumption
      | ((with_reducible show wpAny _ _ ((int_private% "intFromText") _ _ _) _ _ _); refine Hx.wp_textB hk.out.1 hk.out.2.1 hk.out.2.2 ?_)
      | wp_step))
    all_goals first | exact ⟨_, rfl, hQ⟩ | skip
theorem call_bin {prog : Program} {w : World} {A : Around} {E : Value → Shared → Prop} {s : Shared} {Q : Value → Shared → Prop} {x : PySem.Str} {u t : Tok} (hl : x.length ≤ 640) (h : ∀ c ∈ x.cps.toList, IsBit c) (hne : x.cps.toList ≠ [])
    (hQ : Q (.int ((bitNum x.cps.toList : Nat) : Int) s.toks) { s with toks := s.toks + 1 }) : wpAny (model prog w) A (call (.type "int") [.str x u, .int 2 t]) Q E s :=
  callType_new F.called_int F.newNe_int (Hx.typeCall_int_2 _ _) (Hx.newCall_int_2 _ _) (fun obj => F.initArgs_range_2 obj _ _) F.entry_int_new (gives_bin hl h hne).meets (show (Made.int ((bitNum x.cps.toList : Nat) : Int)).post _ s from ⟨rfl, hQ⟩)
end Bx
end L2
namespace DL
open PySem PySem.Spec PyProof.Rows L2
/-- int(t, 2) -/
def bitsB (x : Str) : Bool := decide (x.length ≤ 640) && !x.cps.toList.isEmpty && x.cps.toList.all fun c => c == 48 || c == 49
def intO2 : OpN := fun ws m => match ws with
  | [.d (.str x), .d (.int b)] => if b = 2 ∧ bitsB x = true then some (.d (.int ((Bx.bitNum x.cps.toList : Nat) : Int)), m) else none
  | _ => none
theorem o_int2 {X : Cx} : CallR X (.type "int") (rON X.K intO2) := by
  intro pins s σ H xs us Q I r h
  obtain ⟨ι, m, ws, mo, ra, p⟩ := h
  unfold intO2 at p
  split at p
  · rename_i x b
    split at p
    · rename_i hb
      obtain ⟨rfl, hb⟩ := hb
      unfold bitsB at hb
      simp only [Bool.and_eq_true, decide_eq_true_eq, Bool.not_eq_true', List.all_eq_true, Bool.or_eq_true, beq_iff_eq] at hb
      obtain ⟨⟨h1, h2⟩, h3⟩ := hb
      cases ra with
      | cons q1 q2 =>
        cases q2 with
        | cons q2 q3 =>
          cases q3
          have e1 := relW_str q1
          have e2 := relW_int q2
          subst e1 e2
          obtain ⟨u, w', rfl, ⟨t1, rfl⟩, ⟨t2, rfl⟩⟩ := vals2 r
          exact Bx.call_bin h1 h3 (fun z => by rw [z] at h2; cases h2) ⟨.int ((Bx.bitNum x.cps.toList : Nat) : Int), H, I.tok _, ⟨_, rfl⟩, post_ok p mo (.d (.int _))⟩
    · exact p.elim
  · exact p.elim
end DL
set_option Elab.async false
set_option linter.all false
set_option maxRecDepth 100000
set_option maxHeartbeats 2000000
/-! a lambda made, where one table alone may change: turned from the kit's LamX, step by step -/
namespace LamX
open PySem PySem.Spec PyProof.Rows L2
/-- all but the table at P stay -/
def ExtP (P : Addr) (H H' : Hp) : Prop := ∀ b o, H b = some o → b ≠ P → H' b = some o
section
variable {X : Cx} {pins : List (Addr × Obj)} {σ : L2.St} {H : Hp} {s : Shared}
/-- the lambda is made: its code object is new, or found in the table -/
theorem lam_make1 {c P : Addr} {params : Arguments} {body : Expr} {scope : Scope} {pos : Pos} {E : Value → Shared → Prop} {Q : Value → Shared → Prop} (I : Inv X pins σ H s) (TB : TabB X.base X.mg c P) (hcode : X.env.code = .ref c)
    (hT : TabS H P (X.env.qual ++ "<lambda>")) (hdef : defaultsOf params X.env = ([], [])) (hfree : ∀ y ∈ scope.names, y.2 = .free → ∃ c, X.env.cells.lookup y.1 = some c)
    (h : ∀ (f c' : Addr) (pm ctv : Value) (H1 : Hp) (s' : Shared), Inv X pins σ H1 s' → ExtP P H H1 → TabS H1 P (X.env.qual ++ "<lambda>") →
      s'.heap.get? f = some (PySem.W.kla_obj "<lambda>" (X.env.qual ++ "<lambda>") params body scope (cloFrom X.env.cells scope.names []) pm c' ctv) → H1 f = none → f ∉ frs X.stack → H1 c' = some (CodeO c' (X.env.qual ++ "<lambda>")) → Q (.ref f) s') :
    wpAny (model X.prog X.w) X.A (eval (.Lambda params body scope pos) X.env) Q E s := by
  obtain ⟨ps, hP, ht, ha⟩ := hT
  refine PySem.W.kla_eval hdef ?_
  have bP : s.heap.BuiltinsAt X.mg P := TB.bm.keeps I.bk
  have hP' : s.heap.get? P = some { cls := .none, data := .fields ps } := I.hok P _ hP
  have nofr : ∀ f, s.heap.objs.size ≤ f → f ∉ frs X.stack := fun f hf z => by
    rcases List.mem_cons.mp (I.stkSub _ z) with e | e
    · have h1 := I.lt
      rw [← e] at h1
      exact Nat.lt_irrefl _ (Nat.lt_of_lt_of_le h1 hf)
    · exact I.nofs hf e
  cases hc : codeAmong pos ps.toList with
  | none =>
    refine PySem.W.kla_makeFunction (mg := X.mg) (c := c) (P := P) (ps := ps) (closure_ok hfree) I.ok.glob (I.mod.glob.keeps I.bk) hcode (TB.code.keeps I.bk) hP' ht hc TB.gP bP fun c' ctv h' tk hx hge hlt hrec htb => ?_
    obtain ⟨c2, oc, vs, t, e2, hoc, hd, hv⟩ := hrec
    cases e2
    have hsz : s.heap.objs.size ≤ h'.objs.size := Nat.le_trans hge (Nat.le_of_lt hlt)
    have nC : H c' = none := I.hok.fresh hge
    have I1 := inv_table (t' := tk) (more := #[rawInt pos.line, rawInt pos.col, .ref c']) (h' := h'.push (PySem.W.kla_obj "<lambda>" (X.env.qual ++ "<lambda>") params body scope (cloFrom X.env.cells scope.names []) ((X.mg "__name__").getD .none) c' ctv)) I hP
      (fun b o hb e => Heap.get?_push_of_some _ (hx b o hb e)) (Heap.get?_push_of_some _ htb) hge ⟨oc, vs, t, Heap.get?_push_of_some _ hoc, hd, hv⟩
    have hE : ExtP P H (upd (upd H P (.tbl (ps ++ #[rawInt pos.line, rawInt pos.col, .ref c']))) c' (CodeO c' (X.env.qual ++ "<lambda>"))) := fun b o e n => by
      rw [upd_ne (ne_of_none e nC), upd_ne n]
      exact e
    have cP : ∀ {c0 : Addr}, H c0 = some (CodeO c0 (X.env.qual ++ "<lambda>")) → c0 ≠ P := fun {c0} e z => by
      rw [z, hP] at e
      exact codeO_ne ps (Option.some.inj e).symm
    have eL : (ps ++ #[rawInt pos.line, rawInt pos.col, .ref c']).toList = ps.toList ++ [rawInt pos.line, rawInt pos.col, .ref c'] := by simp
    refine h h'.objs.size c' ((X.mg "__name__").getD .none) ctv _ _ I1 hE ?_ (Heap.get?_push_size _ rfl) ?_ (nofr _ hsz) upd_same
    · refine ⟨_, by rw [upd_ne (ne_of_none hP nC), upd_same], by rw [eL]; exact PySem.TriplesOk_snoc _ _ _ _ ht, fun p' cv hcv => ?_⟩
      rw [eL] at hcv
      rcases among_app _ ht hcv with z | z
      · obtain ⟨c0, e1, e2⟩ := ha p' cv z
        exact ⟨c0, e1, hE _ _ e2 (cP e2)⟩
      · exact ⟨c', z, upd_same⟩
    · have n1 : h'.objs.size ≠ c' := Nat.ne_of_gt hlt
      have n2 : h'.objs.size ≠ P := Nat.ne_of_gt (Nat.lt_of_lt_of_le (Heap.lt_size hP') hsz)
      rw [upd_ne n1, upd_ne n2]
      exact I.hok.fresh hsz
  | some cv =>
    obtain ⟨c', e, hco⟩ := ha pos cv hc
    subst e
    refine PySem.W.kla_makeFunctionHit (mg := X.mg) (c := c) (P := P) (ps := ps) (closure_ok hfree) I.ok.glob (I.mod.glob.keeps I.bk) hcode (TB.code.keeps I.bk) hP' ht hc bP fun ctv h' tk hx hsz => ?_
    have I1 : Inv X pins σ H { s with heap := h'.push (PySem.W.kla_obj "<lambda>" (X.env.qual ++ "<lambda>") params body scope (cloFrom X.env.cells scope.names []) ((X.mg "__name__").getD .none) c' ctv), toks := tk } := I.kept fun b o e => Heap.get?_push_of_some _ (hx b o e)
    exact h h'.objs.size c' ((X.mg "__name__").getD .none) ctv H _ I1 (fun _ _ e _ => e) ⟨ps, hP, ht, ha⟩ (Heap.get?_push_size _ rfl) (I.hok.fresh hsz) (nofr _ hsz) hco
end
def tLam1 (P : Addr) (q : Str) (TT : (XK → Hp → VK → Prop) → Hp → VK → Prop) (t : XK → TE) : TE := fun σ H Q => TabS H P q ∧ ∀ H1, ExtP P H H1 → TabS H1 P q → TT (fun E H' Q' => t E σ H' Q') H1 Q
section
variable {X : Cx}
/-- x(lambda: body) -/
theorem pe_lamcall1 {TT : (XK → Hp → VK → Prop) → Hp → VK → Prop} {x a : Str} {g c P : Addr} {k : Nat} {pg : Arguments} {bg : List Stmt} {sg : Scope} {dV kV doc pm cdv ct oc : Value} {an od : Option Addr} {osl : Array (Option Value)} {Ng : List Str}
    {params : Arguments} {body : Expr} {scope : Scope} {t : XK → TE} {p lpos pos : Pos} (hg : Gl X x) (hm : X.mg x = some (.ref g)) (hk : PySem.W.keepIn X.K (.ref g) = true)
    (lk : X.K.lookup g = some ⟨oc, od, .func (PySem.W.fnOf x x pg bg sg dV kV doc pm an cdv ct), osl⟩) (hcg : PySem.W.codeIn X.K cdv x = true) (hb : L2.Binds X.K (PySem.W.fnOf x x pg bg sg dV kV doc pm an cdv ct) [a] []) (Sg : FnScope Ng [a] sg) (hNg : Ng[0]? = some a) (hva : Vis sg a)
    (hG : GivesTo X Ng x sg g cdv bg a (X.env.qual ++ "<lambda>") TT)
    (TB : TabB X.base X.mg c P) (hcode : X.env.code = .ref c) (hr : Room (k + 2) X.A) (L : LamS X.env.scope scope) (hdef : defaultsOf params X.env = ([], []))
    (hbind : ∀ (q : Str) (cl : List (Str × Addr)) (pm cv ctv : Value), bindArgs (PySem.W.kla_fn "<lambda>" q params body scope cl pm cv ctv) ⟨[], []⟩ = pure [])
    (hbody : ∀ (A : Around) (outer : List Env) (s : Shared) (H : Hp) (E : XK) (f c' : Addr), Room k (A.deeper (lamEnv X scope s.heap.objs.size f c')) → PE (lamCx X A outer s H E scope f c') body (t E))
    (hdb : (x == ("__debug__" : Str)) = false := by decide) (hd : (a == ("__debug__" : Str)) = false := by decide) (hcd : (a == ("__classdict__" : Str)) = false := by decide) :
    PE X (.Call (.Name x p) [.Lambda params body scope lpos] [] pos) (tLam1 P (X.env.qual ++ "<lambda>") TT t) := by
  refine ⟨fun pins s σ H Q I h => ?_⟩
  obtain ⟨hT, h⟩ := h
  refine wpAny_Call_Name_kw (ld_glob I hg hm ?_ hdb)
  refine PySem.W.callWith_K (h₀ := X.base) I.ok.mod.kin hk ?_ (by rfl) (by rfl)
  show wpAny _ _ (spliced ((false, eval (.Lambda params body scope lpos) X.env) :: backTo pos (starEach [] X.env))) _ _ s
  refine Calls.spliced_cons (lam_make1 I TB hcode hT hdef (L.has I.ok) fun f c' pm' ctv H1 s' I1 eN T1 hf hfn hfr hco => ?_)
  refine Calls.spliced_nil ⟨I1.kIn, ?_⟩
  have rc : codeAny (model X.prog X.w) X.A (.call (.ref g) ⟨[.ref f], []⟩) (CR C8.CX0 X.stack X.prog X.w H1 s' Q C8.E0) s' := by
    refine run_ofS (N := Ng) (ps := [a]) (us := [.ref f]) (vs := [.ref f]) lk hcg Sg hr I1.env0 (hb s' [.ref f] I1.kIn rfl) (.cons rfl .nil) rfl fun hr' => ?_
    obtain ⟨t', ht', hq'⟩ := hG f c' s' H1 Q (fun E H' Q' => t E σ H' Q') (fun W pn xe E p1 p2 tk hW => pe_act (i := 0) I1 L hf hfn hfr (hbind _ _ _ _ _) tk hW hr' (fun A outer s H hr2 => hbody A outer s H E f c' hr2) hNg hva hd hcd) hco (h H1 eN T1)
    exact ⟨t', ht'.nox, hq'⟩
  refine wpAny_call (codeAny_mono rc fun r s2 hq => ?_)
  cases r with
  | error e => exact (show False from hq).elim
  | ok fl =>
    cases fl with
    | ret u => exact I1.after hq
    | next => exact False.elim hq
    | brk => exact False.elim hq
    | cont => exact False.elim hq
end
end LamX
set_option Elab.async false
set_option linter.all false
set_option maxRecDepth 100000
set_option maxHeartbeats 2000000
namespace DL
open PySem PySem.Spec PyProof.Rows L2
/-! ### x(lambda: body), x a def that tries what it got -/
/-- a clause whose suite only gives a value back -/
structure Hc where
  cls : Str
  slot : Option Nat
  val : Ex → Option Wd
def Hc.hd (h : Hc) : Hd := ⟨h.cls, h.slot, fun x env m => match h.val x with
  | some w => .go (.rt w) env m
  | none => .stuck⟩
def closedL (sub : Str → Str → Option Bool) : List Hc → Ex → Mm → Rs Wd
  | [], x, m => .exc x m
  | h :: r, x, m => match sub x.cls h.cls with
    | some true => match h.val x with
      | some w => .ok w m
      | none => .stuck
    | some false => closedL sub r x m
    | none => .stuck
theorem closed_ok {K : PySem.W.Frag} {W : L2.WX} {D : Ends} {sub : Str → Str → Option Bool} {ι : List Addr} {H : Hp} {x : Ex} {m m1 : Mm} : ∀ (hs : List Hc) (env : Env) (w : Wd), closedL sub hs x m = .ok w m1 →
    m1 = m ∧ ((∀ ι' H' v, Stp ι H ι' H' → MemOk K ι' m H' → RelW K ι' H' w v → D.rt v H') → PostS K W D ι H (catchL sub (hs.map Hc.hd) x env m))
  | [], env, w, e => by cases e
  | h :: r, env, w, e => by
    have g : catchL sub ((h :: r).map Hc.hd) x env m = (match sub x.cls h.cls with
      | some true => offS h.slot (match h.val x with
        | some w => .go (.rt w) (unsetE h.slot env) m
        | none => .stuck)
      | some false => catchL sub (r.map Hc.hd) x env m
      | none => .stuck) := rfl
    have e' : (match sub x.cls h.cls with
      | some true => (match h.val x with
        | some w => Rs.ok w m
        | none => .stuck)
      | some false => closedL sub r x m
      | none => .stuck) = .ok w m1 := e
    rw [g]
    cases q : sub x.cls h.cls with
    | none => rw [q] at e'; cases e'
    | some b =>
      cases b with
      | true =>
        rw [q] at e'
        cases q2 : h.val x with
        | none => simp only [q2] at e'; cases e'
        | some w2 =>
          simp only [q2] at e'
          cases e'
          exact ⟨rfl, fun k => k⟩
      | false =>
        rw [q] at e'
        exact closed_ok r env w e'
/-- return (told, a()) under except clauses -/
def caughtT (sub : Str → Str → Option Bool) (told : Str) (hs : List Hc) : Rs Wd → Rs Wd
  | .ok w m => .ok (mkTup [.d (.str told), w]) m
  | .exc x m => match closedL sub hs x m with
    | .ok w m => .ok w m
    | _ => .stuck
  | .stuck => .stuck
/-- what the def makes of what the deed does -/
def TTT (K : PySem.W.Frag) (T : Rs Wd → Rs Wd) : (XK → Hp → VK → Prop) → Hp → VK → Prop := fun tl H Q =>
  ∃ (ι : List Addr) (m : Mm) (r : Rs Wd), MemOk K ι m H ∧ (∀ (E : XK) (Q' : VK), Post K (fun cls d _ H => E cls d H) (RelW K) ι H [] Q' r → tl E H Q') ∧ Post K W0 (RelW K) ι H [] Q (T r)
def KnT (P : Program) (w : World) (K : PySem.W.Frag) (mg : Str → Option Value) (base : Heap) (x : Str) (T : Rs Wd → Rs Wd) : Prop :=
  ∃ (g : Addr) (oc : Value) (od : Option Addr) (pg : Arguments) (bg : List Stmt) (sg : Scope) (dV kV doc pm cdv ct : Value) (an : Option Addr) (osl : Array (Option Value)) (Ng : List Str) (a : Str),
    mg x = some (.ref g) ∧ PySem.W.keepIn K (.ref g) = true ∧ K.lookup g = some ⟨oc, od, .func (PySem.W.fnOf x x pg bg sg dV kV doc pm an cdv ct), osl⟩ ∧ PySem.W.codeIn K cdv x = true ∧ L2.Binds K (PySem.W.fnOf x x pg bg sg dV kV doc pm an cdv ct) [a] [] ∧
      FnScope Ng [a] sg ∧ Ng[0]? = some a ∧ Vis sg a ∧ (a == ("__debug__" : Str)) = false ∧ (a == ("__classdict__" : Str)) = false ∧
      ∀ (X : Cx) (q : Str), X.prog = P → X.w = w → X.K = K → X.mg = mg → X.base = base → LamX.GivesTo X Ng x sg g cdv bg a q (TTT K T)
theorem envNone {K : PySem.W.Frag} {ι : List Addr} {H : Hp} (σ : L2.St) : EnvOk K ι H (List.replicate σ.length none) σ := by
  refine ⟨by simp, fun i w e => ?_⟩
  rw [List.getElem?_replicate] at e
  split at e
  · cases e
  · cases e
theorem kt_fn {P : Program} {w : World} {K : PySem.W.Frag} {mg : Str → Option Value} {base : Heap} {x a told : Str} {st : Stmt} {Ng : List Str} {sub : Str → Str → Option Bool} {hds : List ExceptHandler} {h₀ : ExceptHandler} {hs : List Hc} {j : Nat} {tx} {p1 p2 p3 p5 p6 p8 : Pos}
    (D : Df K mg x st) (S : FnScope Ng [a] (defScope st)) (h0 : Ng[0]? = some a) (hva : Vis (defScope st) a)
    (hbd : ∀ (f : Addr) (fd : FuncData), FunD K x x (defArgs st) (defBody st) (defScope st) [] [] f fd → Binds K fd [a] [])
    (hbody : defBody st = [.Try [.Return (some (.Tuple [.Constant (.str told) j p5, .Call (.Name a p1) [] [] p2] tx p3)) p6] (h₀ :: hds) [] [] p8]) (hsb : SubK K sub)
    (hh : ∀ (g : Addr) (cdg : Value) (A : Around) (stack : List PySem.Env) (s : Shared) (H : Hp), HdsD (cxOf C8.CX0 P w K mg base Ng x (defScope st) g cdg A stack s H C8.E0).nox (h₀ :: hds) (hs.map Hc.hd))
    (hd : (a == ("__debug__" : Str)) = false := by decide) (hcd : (a == ("__classdict__" : Str)) = false := by decide) :
    KnT P w K mg base x (caughtT sub told hs) := by
  obtain ⟨g, fd, h1, F⟩ := D
  have hb := hbd g fd F
  obtain ⟨oc, od, dV, kV, doc, pm, an, cdv, ct, osl, rfl, lk, hcdv, _, _⟩ := F.ex
  refine ⟨g, oc, od, _, _, _, dV, kV, doc, pm, cdv, ct, an, osl, Ng, a, h1, F.kp, lk, hcdv, hb, S, h0, hva, hd, hcd, fun X q e1 e2 e3 e4 e5 => ?_⟩
  subst e1 e2 e3 e4 e5
  intro f c' s H Q tl act hc h
  obtain ⟨ι, m, r, mo, hr, p⟩ := h
  obtain ⟨l, hl, k⟩ := hdsD_mix (X := (cxOf C8.CX0 X.prog X.w X.K X.mg X.base Ng x (defScope st) g cdv X.A X.stack s H C8.E0).nox) (W := W0) hsb (hh g cdv X.A X.stack s H)
  rw [hbody]
  refine ⟨_, pss_one (ps_try_mix (X := (cxOf C8.CX0 X.prog X.w X.K X.mg X.base Ng x (defScope st) g cdv X.A X.stack s H C8.E0).nox) (Wout := W0)
    (tb := fun W D σ H => ∃ Ech : XK, (∀ cls d σ' H', Ech cls d H' → W cls d σ' H') ∧ σ[0]? = some (some (.ref f)) ∧ H c' = some (LamX.CodeO c' q) ∧
      tl Ech H (fun v H1 => ([V.str told, v] : List V).length ≤ sizeLine ∧ ∀ p, H1 p = none → D.rt (.ref p) (upd H1 p (.tup [.str told, v])))) rfl rfl LamX.takes0 (fun W pn xe tk _ => ?_) S.nd hl), ?_⟩
  · refine ⟨fun pins s' σ H' D I h' => ?_⟩
    obtain ⟨Ech, hW, h1, h2, h3⟩ := h'
    have hp := act W pn xe Ech p1 p2 tk hW
    exact (pss_one (ps_ret (pe_tup (pa_cons pe_str (pa_cons hp pa_nil))))).run pins s' σ H' D I ⟨h1, h2, h3⟩
  · refine ⟨fun cls d H' => ∀ σ', wMix X.K W0 { nx := fun _ H' => Q .non H', rt := Q } l cls d σ' H', fun cls d σ' H' z => z σ', ?_, hc, hr _ _ ?_⟩
    · cases Ng with
      | nil => cases h0
      | cons b Ng => rfl
    · cases r with
      | stuck => exact p
      | ok w0 m0 =>
        intro ι' H' v st mo' rv
        refine ⟨(show 2 ≤ sizeLine by decide), fun q hq => ?_⟩
        exact p ι' _ _ (st.trans (stp_tup hq)) (mo'.tup hq) (mkTup_ok (SqT.of upd_same) (.cons (.d (.str _)) (.cons (rv.step mo'.apart (stp_tup hq)) .nil)))
      | exc x0 m0 =>
        intro ι' H' cls d st mo' xo σ'
        have p' : Post X.K W0 (RelW X.K) ι H [] Q (match closedL sub hs x0 m0 with
          | .ok w m => .ok w m
          | _ => .stuck) := p
        cases e : closedL sub hs x0 m0 with
        | stuck => rw [e] at p'; exact p'.elim
        | exc _ _ => rw [e] at p'; exact p'.elim
        | ok w1 m1 =>
          rw [e] at p'
          obtain ⟨rfl, c2⟩ := closed_ok (K := X.K) (W := W0) (D := { nx := fun _ H' => Q .non H', rt := Q }) (ι := ι') (H := H') hs (List.replicate σ'.length none) w1 e
          exact k _ ι' H' σ' _ m1 x0 cls d (envNone σ') mo' xo (c2 fun ι2 H2 v st2 mo2 rv => p' ι2 H2 v (st.trans st2) mo2 rv)
/-! handlers of this kind -/
def hTupV (c : Str) (ls : List Lf) : Ex → Option Wd := fun x => if x.cls = c then (match evL x ls with
  | some ws => if ws.length ≤ LIM then some (mkTup ws) else none
  | none => none) else none
theorem hTup_V (c : Str) (ls : List Lf) (cl : Str) (sl : Option Nat) : hTup c ls = (Hc.hd ⟨cl, sl, hTupV c ls⟩).run := by
  funext x env m
  show hTup c ls x env m = (match hTupV c ls x with
    | some w => .go (.rt w) env m
    | none => .stuck)
  unfold hTup hTupV
  by_cases h : x.cls = c
  · rw [if_pos h, if_pos h]
    cases evL x ls with
    | none => rfl
    | some ws =>
      simp only []
      by_cases h2 : ws.length ≤ LIM
      · rw [if_pos h2, if_pos h2]
      · rw [if_neg h2, if_neg h2]
  · rw [if_neg h, if_neg h]
theorem hs_tupV {Xs : Cx} {suite : List Stmt} {K : PySem.W.Frag} {c cl : Str} {ls : List Lf} {sl so : Option Nat} {a : Addr} {cls : Value} {d : Option Addr} (h : PSs Xs suite (tsX K so (hTup c ls) a cls d)) : PSs Xs suite (tsX K so (Hc.hd ⟨cl, sl, hTupV c ls⟩).run a cls d) := by
  rw [← hTup_V]
  exact h
theorem hs_const {Xs : Cx} {suite : List Stmt} {cl : Str} {sl so : Option Nat} {a : Addr} {cls : Value} {d : Option Addr} {b : Sm} {w : Wd} (h : PSs Xs suite (tS Xs.K W0 b)) (hb : ∀ env m, b env m = .go (.rt w) env m) :
    PSs Xs suite (tsX Xs.K so (Hc.hd ⟨cl, sl, fun _ => some w⟩).run a cls d) := by
  have e : (fun _ : Ex => b) = (Hc.hd ⟨cl, sl, fun _ => some w⟩).run := by
    funext x env m
    exact hb env m
  rw [← e]
  exact hs_gen h
/-! the table of the maker -/
/-- what is known of the table of the def x, whose code object is cdv -/
def TabX (K : PySem.W.Frag) (mg : Str → Option Value) (base : Heap) (x : Str) (cdv : Value) : Prop := ∃ c P, cdv = .ref c ∧ tabP K x = some P ∧ LamX.TabB base mg c P
def LamK (K : PySem.W.Frag) (mg : Str → Option Value) (base : Heap) (x : Str) : Prop := ∀ (f : Addr) (oc : Value) (od : Option Addr) (fd : FuncData) (osl : Array (Option Value)), mg x = some (.ref f) → K.lookup f = some ⟨oc, od, .func fd, osl⟩ → TabX K mg base x fd.code
/-- the name of a lambda in the def x -/
abbrev lq (x : Str) : Str := (x ++ ".<locals>.") ++ "<lambda>"
def hasTab (x q : Str) (cs : List Cell) : Bool := cs.any fun c => match c with
  | .tab x' q' => decide (x' = x) && decide (q' = q)
  | _ => false
theorem hasTab_ok {x q : Str} {cs : List Cell} (h : hasTab x q cs = true) : ∃ n : Nat, cs[n]? = some (Cell.tab x q) := by
  obtain ⟨c, hc, e⟩ := List.any_eq_true.mp h
  obtain ⟨n, hn, e2⟩ := List.getElem_of_mem hc
  refine ⟨n, ?_⟩
  rw [List.getElem?_eq_getElem hn, e2]
  cases c with
  | tab x' q' =>
    have e' : (decide (x' = x) && decide (q' = q)) = true := e
    rw [Bool.and_eq_true] at e'
    rw [of_decide_eq_true e'.1, of_decide_eq_true e'.2]
  | _ => cases e
def eLam (x q : Str) (T : Rs Wd → Rs Wd) (b : Em Wd) : Em Wd := fun env m => if hasTab x q m.cells = true then T (b env m) else .stuck
theorem takes_lam {X : Cx} {A : Around} {outer : List PySem.Env} {s : Shared} {H : Hp} {E : XK} {scope : Scope} {f c' : Addr} : Takes (LamX.lamCx X A outer s H E scope f c') (fun cls d _ H => E cls d H) := takes_of rfl rfl rfl rfl
theorem MemOk.tabbed {K : PySem.W.Frag} {ι : List Addr} {m : Mm} {H H1 : Hp} {P : Addr} {x q : Str} {n : Nat} (mo : MemOk K ι m H) (hn : ι[n]? = some P) (hc : m.cells[n]? = some (.tab x q)) (e : LamX.ExtP P H H1) (t1 : LamX.TabS H1 P q) : MemOk K ι m H1 ∧ Stp ι H ι H1 := by
  have st : Stp ι H ι H1 := ⟨List.prefix_refl _, fun a ha n => absurd ha n, fun a o h n2 => e a o h fun z => n2 (by rw [z]; exact List.mem_of_getElem? hn)⟩
  refine ⟨⟨mo.len, mo.nd, fun n' a c h1 h2 => ?_, mo.top, mo.ord, mo.clean⟩, st⟩
  have h := mo.cell n' a c h1 h2
  by_cases ha : a = P
  · subst ha
    have e1 : n' = n := nodup_get mo.nd h1 hn
    subst e1
    rw [hc] at h2
    cases h2
    exact ⟨h.1, t1⟩
  · have hH : H1 a = H a := by
      cases q2 : H a with
      | some o => exact e a o q2 ha
      | none => exact absurd q2 (mo.apart a (List.mem_of_getElem? h1)).2.2.1
    exact h.step mo.apart st hH
section
variable {X : Cx} {W : L2.WX}
theorem Post.swap {α β : Type} {K : PySem.W.Frag} {E : XK} {rel : List Addr → Hp → α → β → Prop} {ι : List Addr} {H : Hp} {σ σ' : L2.St} {Q : β → Hp → Prop} {r : Rs α} (h : Post K (fun cls d _ H => E cls d H) rel ι H σ Q r) : Post K (fun cls d _ H => E cls d H) rel ι H σ' Q r := by
  cases r with
  | ok a m => exact h
  | exc x m => exact h
  | stuck => exact h
theorem caught_post {K : PySem.W.Frag} {ι : List Addr} {H : Hp} {σ σ' : L2.St} {Q : VK} {sub : Str → Str → Option Bool} {told : Str} {hs : List Hc} {r : Rs Wd} (h : Post K W (RelW K) ι H σ Q (caughtT sub told hs r)) : Post K W0 (RelW K) ι H σ' Q (caughtT sub told hs r) := by
  cases r with
  | ok a m => exact h
  | stuck => exact h
  | exc x m =>
    have e : caughtT sub told hs (.exc x m) = (match closedL sub hs x m with
      | .ok w m => .ok w m
      | _ => .stuck) := rfl
    rw [e] at h ⊢
    cases q : closedL sub hs x m with
    | ok _ _ => rw [q] at h; exact h
    | exc _ _ => rw [q] at h; exact h.elim
    | stuck => rw [q] at h; exact h.elim
theorem de_lam {j k : Nat} {xd x : Str} {sub : Str → Str → Option Bool} {told : Str} {hs : List Hc} {params : Arguments} {body : Expr} {scope : Scope} {b : Em Wd} {p lpos pos : Pos} (c : KnT X.prog X.w X.K X.mg X.base x (caughtT sub told hs)) (tc : TabX X.K X.mg X.base xd X.env.code) (hg : Gl X x) (hr : Room j X.A) (hk : k + 2 ≤ j)
    (L : LamX.LamS X.env.scope scope) (hdef : defaultsOf params X.env = ([], []))
    (hbind : ∀ (q : Str) (cl : List (Str × Addr)) (pm cv ctv : Value), bindArgs (PySem.W.kla_fn "<lambda>" q params body scope cl pm cv ctv) ⟨[], []⟩ = pure [])
    (hbody : ∀ (A : Around) (outer : List PySem.Env) (s : Shared) (H : Hp) (E : XK) (f c' : Addr), Room k (A.deeper (LamX.lamEnv X scope s.heap.objs.size f c')) → Takes (LamX.lamCx X A outer s H E scope f c') (fun cls d _ H => E cls d H) →
      PE (LamX.lamCx X A outer s H E scope f c') body (tE X.K (fun cls d _ H => E cls d H) b)) (hdb : (x == ("__debug__" : Str)) = false := by decide) :
    PE X (.Call (.Name x p) [.Lambda params body scope lpos] [] pos) (tE X.K W (eLam xd (X.env.qual ++ "<lambda>") (caughtT sub told hs) b)) := by
  obtain ⟨g, oc, od, pg, bg, sg, dV, kV, doc, pm, cdv, ct, an, osl, Ng, a, hm, hkp, lk, hcd, hb, Sg, h0, hva, hd, hcd2, hG⟩ := c
  obtain ⟨cc, P, hcode, hP, TB⟩ := tc
  refine PEimp (LamX.pe_lamcall1 (t := fun E => tE X.K (fun cls d _ H => E cls d H) b) hg hm hkp lk hcd hb Sg h0 hva (hG X _ rfl rfl rfl rfl rfl) TB hcode (hr.mono hk) L hdef hbind (fun A outer s H E f c' hr2 => hbody A outer s H E f c' hr2 takes_lam) hdb hd hcd2) fun σ H Q ⟨ι, env, m, eo, mo, h⟩ => ?_
  have h' : Post X.K W (RelW X.K) ι H σ Q (if hasTab xd (X.env.qual ++ "<lambda>") m.cells = true then caughtT sub told hs (b env m) else .stuck) := h
  by_cases ht : hasTab xd (X.env.qual ++ "<lambda>") m.cells = true
  · rw [if_pos ht] at h'
    obtain ⟨n, hn⟩ := hasTab_ok ht
    have hl : n < ι.length := by rw [mo.len]; exact get_of hn
    obtain ⟨t1, t2⟩ := mo.cell n _ _ (List.getElem?_eq_getElem hl) hn
    have eP : ι[n] = P := by rw [hP] at t1; exact (Option.some.inj t1).symm
    rw [eP] at t2
    have hnP : ι[n]? = some P := by rw [List.getElem?_eq_getElem hl, eP]
    refine ⟨t2, fun H1 e1 s1 => ?_⟩
    obtain ⟨mo1, st1⟩ := mo.tabbed hnP hn e1 s1
    exact ⟨ι, m, b env m, mo1, fun E Q' hp => ⟨ι, env, m, eo.step mo.apart st1, mo1, hp.swap⟩, caught_post (Post.step st1 h')⟩
  · rw [if_neg ht] at h'
    exact h'.elim
end
/-! defs that make lambdas -/
theorem k_fnL {P : Program} {w : World} {K : PySem.W.Frag} {mg : Str → Option Value} {base : Heap} {x : Str} {st : Stmt} {N ps : List Str} {k n j : Nat} {b : Sm} (D : Df K mg x st) (L : LamK K mg base x) (S : FnScope N ps (defScope st)) (hN : N.length = n) (hj : ps.length = j)
    (hbd : ∀ (f : Addr) (fd : FuncData), FunD K x x (defArgs st) (defBody st) (defScope st) [] [] f fd → Binds K fd ps [])
    (hb : ∀ (f : Addr) (cdv : Value), TabX K mg base x cdv → ∀ (A : Around) (outer : List PySem.Env) (s : Shared) (H : Hp) (E : XK), Room k (A.deeper (envOfC x (defScope st) s.heap.objs.size f cdv)) → Takes (cxOf (L2.CX P w) P w K mg base N x (defScope st) f cdv A outer s H E) (fun cls d _ H => E cls d H) →
      PassesOwn (model P w) (A.deeper (envOfC x (defScope st) s.heap.objs.size f cdv)) (envOfC x (defScope st) s.heap.objs.size f cdv) (cxOf (L2.CX P w) P w K mg base N x (defScope st) f cdv A outer s H E).xe →
      PSs (cxOf (L2.CX P w) P w K mg base N x (defScope st) f cdv A outer s H E) (defBody st) (tS K (fun cls d _ H => E cls d H) b)) : Kn P w K mg base (k + 1) j x ps (runF n b) := by
  obtain ⟨f, fd, h1, F⟩ := D
  have hbd' := hbd f fd F
  obtain ⟨oc, od, dV, kV, doc, pm, an, cdv, ct, osl, rfl, lk, hcd, _, _⟩ := F.ex
  have T := L f oc od _ osl h1 lk
  exact ⟨f, _, h1, F.kp, hbd', fn_of lk hcd S (fun vs H Q E h => by obtain ⟨_, _, _, hl, _⟩ := h; exact hl.trans hj.symm) fun A outer s H vs Q E hr h =>
    ⟨_, hb f cdv T A outer s H E hr (takes_of rfl rfl rfl rfl) (passes_of rfl), fn_start hN h⟩⟩
theorem d_fnL {P : Program} {w : World} {K : PySem.W.Frag} {mg : Str → Option Value} {base : Heap} {x : Str} {st : Stmt} {f : Addr} {fd : FuncData} {N ps : List Str} {k n j : Nat} {b : Sm} (F : FunD K x x (defArgs st) (defBody st) (defScope st) [] [] f fd) (hm : mg x = some (.ref f)) (L : LamK K mg base x) (S : FnScope N ps (defScope st)) (hN : N.length = n) (hj : ps.length = j)
    (hb : ∀ (cdv : Value), TabX K mg base x cdv → ∀ (A : Around) (outer : List PySem.Env) (s : Shared) (H : Hp) (E : XK), Room k (A.deeper (envOfC x (defScope st) s.heap.objs.size f cdv)) → Takes (cxOf (L2.CX P w) P w K mg base N x (defScope st) f cdv A outer s H E) (fun cls d _ H => E cls d H) →
      PassesOwn (model P w) (A.deeper (envOfC x (defScope st) s.heap.objs.size f cdv)) (envOfC x (defScope st) s.heap.objs.size f cdv) (cxOf (L2.CX P w) P w K mg base N x (defScope st) f cdv A outer s H E).xe →
      PSs (cxOf (L2.CX P w) P w K mg base N x (defScope st) f cdv A outer s H E) (defBody st) (tS K (fun cls d _ H => E cls d H) b)) : FnOk P w K mg base (L2.CX P w) (k + 1) f fd ps (spD K j (runF n b)) := by
  obtain ⟨oc, od, dV, kV, doc, pm, an, cdv, ct, osl, rfl, lk, hcd, _, _⟩ := F.ex
  have T := L f oc od _ osl hm lk
  exact fn_of lk hcd S (fun vs H Q E h => by obtain ⟨_, _, _, hl, _⟩ := h; exact hl.trans hj.symm) fun A outer s H vs Q E hr h =>
    ⟨_, hb cdv T A outer s H E hr (takes_of rfl rfl rfl rfl) (passes_of rfl), fn_start hN h⟩
end DL
set_option Elab.async false
set_option linter.all false
set_option maxRecDepth 100000
set_option maxHeartbeats 2000000
namespace DL
open PySem PySem.Spec PyProof.Rows L2
/-! ### tables of code objects: read off the heap; the end of a law that makes lambdas -/
def codeA (K : PySem.W.Frag) (x : Str) : Addr := match PySem.W.nsIn K mainGlobals x with
  | some (some (.ref f)) => (match K.lookup f with
    | some ⟨_, _, .func fd, _⟩ => (match fd.code with
      | .ref c => c
      | _ => 0)
    | _ => 0)
  | _ => 0
def tabA (K : PySem.W.Frag) (x : Str) : Addr := (tabP K x).getD 0
def lamB (K : PySem.W.Frag) (x : Str) : Bool := (tabP K x).isSome && (PySem.W.codeHdIn K (codeA K x) (tabA K x) && (K.lookup (tabA K x)).isNone)
theorem tabP_A {K : PySem.W.Frag} {x : Str} (h : lamB K x = true) : tabP K x = some (tabA K x) := by
  unfold lamB at h
  rw [Bool.and_eq_true] at h
  unfold tabA
  cases e : tabP K x with
  | none => rw [e] at h; cases h.1
  | some P => rfl
theorem lamK_of {K : PySem.W.Frag} {h : Heap} {mg : Str → Option Value} {base : Heap} {x : Str} (X : K.In h) (G : h.Ns mainGlobals mg) (c : lamB K x = true) (T : LamX.TabB base mg (codeA K x) (tabA K x)) : LamK K mg base x := by
  have hP := tabP_A c
  intro f oc od fd osl hm lk
  have hP' := hP
  unfold tabP at hP'
  split at hP'
  · rename_i f' hns
    have e := PySem.W.mg_of X G hns
    rw [hm] at e
    cases e
    rw [lk] at hP'
    simp only [] at hP'
    split at hP'
    · rename_i c0 hc0
      have ec : codeA K x = c0 := by
        unfold codeA
        rw [hns]
        simp only []
        rw [lk]
        simp only [hc0]
      refine ⟨c0, tabA K x, hc0, hP, ?_⟩
      rw [← ec]
      exact T
    · cases hP'
  · cases hP'
abbrev tobj : Obj := { cls := .none, data := .fields #[] }
abbrev AlT : Type := AlR × Bool × List (Option Obj)
structure SaysT (file : Str) (fa : List He.Fa) (fn : List He.DefD) (cs : List (Str × PyData)) (er : List ErD) (ec : List (Str × List Str)) (sb : List ((Str × Str) × Bool)) (lm : List Str) (K : PySem.W.Frag) (h : Heap) : Prop where
  r : SaysR file fa fn cs er ec sb K
  l : lm.all (lamB K) = true
  n : (lm.map (tabA K)).Nodup
  t : ∀ x ∈ lm, h.get? (tabA K x) = some tobj
def asT (n : Nat) (lm : List Str) (g : Addr → Option Obj) : List Addr := let ts := lm.map (tabA (kR n g)); (cStatics :: He.asD g n).filter fun a => !(ts.contains a)
def kT (n : Nat) (lm : List Str) (g : Addr → Option Obj) : PySem.W.Frag := He.frG g (asT n lm g)
def obsK (file : Str) (fa : List He.Fa) (fn : List He.DefD) (cs : List (Str × PyData)) (er : List ErD) (ec : List (Str × List Str)) (sb : List ((Str × Str) × Bool)) (K : PySem.W.Frag) : AlR :=
  (He.obsD fa fn K, cs.all (conF K) && er.all (erB file K) && ec.all (ecB K) && sb.all (sbB K), er.map fun d => fnR K d.cls)
def obsT (file : Str) (n : Nat) (fa : List He.Fa) (fn : List He.DefD) (cs : List (Str × PyData)) (er : List ErD) (ec : List (Str × List Str)) (sb : List ((Str × Str) × Bool)) (lm : List Str) (g : Addr → Option Obj) : AlT :=
  (obsK file fa fn cs er ec sb (kT n lm g), lm.all (lamB (kT n lm g)) && decide (lm.map (tabA (kT n lm g))).Nodup, lm.map fun x => g (tabA (kT n lm g) x))
def hookT (file : Str) (n : Nat) (fa : List He.Fa) (fn : List He.DefD) (cs : List (Str × PyData)) (er : List ErD) (ec : List (Str × List Str)) (sb : List ((Str × Str) × Bool)) (lm : List Str) : PySem.W.Hook where
  α := AlT
  obs := fun s => obsT file n fa fn cs er ec sb lm s.heap.get?
  val := fun _ => ((He.valD fn, true, er.map ErD.val), true, lm.map fun _ => some tobj)
  says := fun _ h => ∃ K : PySem.W.Frag, K.In h ∧ SaysT file fa fn cs er ec sb lm K h
  of := fun w s e => by
    have e0 : obsK file fa fn cs er ec sb (kT n lm s.heap.get?) = (He.valD fn, true, er.map ErD.val) := congrArg (·.1) e
    have e1 : He.obsD fa fn (kT n lm s.heap.get?) = He.valD fn := congrArg (·.1) e0
    have e2 : (cs.all (conF (kT n lm s.heap.get?)) && er.all (erB file (kT n lm s.heap.get?)) && ec.all (ecB (kT n lm s.heap.get?)) && sb.all (sbB (kT n lm s.heap.get?))) = true := congrArg (·.2.1) e0
    have e3 : er.map (fun d => fnR (kT n lm s.heap.get?) d.cls) = er.map ErD.val := congrArg (·.2.2) e0
    have e4 : (lm.all (lamB (kT n lm s.heap.get?)) && decide (lm.map (tabA (kT n lm s.heap.get?))).Nodup) = true := congrArg (·.2.1) e
    have e5 : lm.map (fun x => s.heap.get? (tabA (kT n lm s.heap.get?) x)) = lm.map fun _ => some tobj := congrArg (·.2.2) e
    simp only [Bool.and_eq_true] at e2 e4
    exact ⟨_, He.frG_in, ⟨e1, e2.1.1.1, e2.1.1.2, e3, e2.1.2, e2.2⟩, e4.1, of_decide_eq_true e4.2, List.map_inj_left.mp e5⟩
  keeps := fun _ _ _ ⟨K, hK, c⟩ k => ⟨K, PySem.W.Frag.In.keeps hK k, c.r, c.l, c.n, fun x hx => k _ _ (c.t x hx)⟩
theorem obsT_eq {file : Str} {n : Nat} {fa : List He.Fa} {fn : List He.DefD} {cs : List (Str × PyData)} {er : List ErD} {ec : List (Str × List Str)} {sb : List ((Str × Str) × Bool)} {lm : List Str} {g : Addr → Option Obj} {s : Shared} (h : ∀ a, g a = s.heap.get? a) : obsT file n fa fn cs er ec sb lm g = (hookT file n fa fn cs er ec sb lm).obs s := by
  have e : g = s.heap.get? := funext h
  rw [e] <;> rfl
/-- how the law's run begins: the script, the tables -/
def tabCs (tl : List (Str × Str)) : List Cell := tl.map fun p => .tab p.1 p.2
inductive Begin (tl : List (Str × Str)) (ns : List Int) : Wd → Mm → Prop
  | rol : Begin tl ns (scriptW ns) ⟨tabCs tl, []⟩
  | lst : Begin tl ns (.ref (tabCs tl).length) ⟨tabCs tl ++ [.lst (ns.map fun i => .d (.int i))], []⟩
theorem law_endT {K : PySem.W.Frag} {H : Hp} {a : Addr} {ns : List Int} {F : Fn} {tl : List (Str × Str)} (hl : ∀ x ∈ tl.map (·.1), lamB K x = true) (hn : ((tl.map (·.1)).map (tabA K)).Nodup) (hH : ∀ x ∈ tl.map (·.1), H (tabA K x) = some (.tbl #[])) (h : SqL K H a (ns.map V.int))
    (hF : ∀ w m, Begin tl ns w m → ∃ m', F [w] m = .ok (.d (.bool true)) m') : spD K 1 F [.ref a] H (fun v _ => v = .bl true) fun _ _ _ => False := by
  have mo : ∀ n a c, ((tl.map (·.1)).map (tabA K))[n]? = some a → (tabCs tl)[n]? = some c → CellOk K ((tl.map (·.1)).map (tabA K)) H a c ∧ ∀ ι, CellOk K ι H a c := fun n a c h1 h2 => by
    unfold tabCs at h2
    rw [List.getElem?_map, List.getElem?_map] at h1
    rw [List.getElem?_map] at h2
    cases q : tl[n]? with
    | none => rw [q] at h1; cases h1
    | some p =>
      rw [q] at h1 h2
      simp only [Option.map_some, Option.some.injEq] at h1 h2
      subst h1 h2
      have hm : p.1 ∈ tl.map (·.1) := List.mem_map.mpr ⟨p, List.mem_of_getElem? q, rfl⟩
      exact ⟨⟨tabP_A (hl _ hm), LamX.TabS.nil (hH _ hm)⟩, fun ι => ⟨tabP_A (hl _ hm), LamX.TabS.nil (hH _ hm)⟩⟩
  rcases h with (h | ⟨o, h⟩) | h
  · obtain ⟨m', e⟩ := hF _ _ .lst
    have hni : a ∉ (tl.map (·.1)).map (tabA K) := fun z => by
      obtain ⟨x, hx, e⟩ := List.mem_map.mp z
      have := hH x hx
      rw [e, h] at this
      cases this
    have hlen : ((tl.map (·.1)).map (tabA K)).length = (tabCs tl).length := by simp [tabCs]
    refine ⟨(tl.map (·.1)).map (tabA K) ++ [a], ⟨tabCs tl ++ [.lst (ns.map fun i => .d (.int i))], []⟩, [.ref (tabCs tl).length], rfl, ⟨by simp [tabCs], ?_, fun n b c h1 h2 => ?_, (fun _ h => nomatch h), .nil, (fun _ h => nomatch h)⟩, .cons (.ref (by rw [← hlen]; simp)) .nil, ?_⟩
    · rw [List.nodup_append]
      exact ⟨hn, by simp, fun x hx y hy e => hni (by rw [List.mem_singleton.mp hy] at e; rw [← e]; exact hx)⟩
    · by_cases hlt : n < (tabCs tl).length
      · rw [List.getElem?_append_left (by rw [hlen]; exact hlt)] at h1
        have h2' : (tabCs tl ++ [Cell.lst (ns.map fun i => Wd.d (.int i))])[n]? = some c := h2
        rw [List.getElem?_append_left hlt] at h2'
        exact (mo n b c h1 h2').2 _
      · have h2' : (tabCs tl ++ [Cell.lst (ns.map fun i => Wd.d (.int i))])[n]? = some c := h2
        have hl2 := get_of h2'
        rw [List.length_append, List.length_singleton] at hl2
        have e : n = (tabCs tl).length := by omega
        subst e
        have e1 : b = a := by rw [← hlen] at h1; simpa using h1.symm
        have e2 : c = Cell.lst (ns.map fun i => Wd.d (.int i)) := by simpa using h2'.symm
        subst e1 e2
        exact ⟨_, h, relInts ns⟩
    · rw [e]
      exact fun ι' H' b st mo r => relW_bl r
  · obtain ⟨m', e⟩ := hF _ _ .rol
    refine ⟨(tl.map (·.1)).map (tabA K), ⟨tabCs tl, []⟩, [scriptW ns], rfl, ⟨by simp [tabCs], hn, fun n a c h1 h2 => (mo n a c h1 h2).1, (fun _ h => nomatch h), .nil, (fun _ h => nomatch h)⟩, .cons (.rol (.inl ⟨o, h⟩) (relInts ns)) .nil, ?_⟩
    rw [e]
    exact fun ι' H' b st mo r => relW_bl r
  · obtain ⟨m', e⟩ := hF _ _ .rol
    refine ⟨(tl.map (·.1)).map (tabA K), ⟨tabCs tl, []⟩, [scriptW ns], rfl, ⟨by simp [tabCs], hn, fun n a c h1 h2 => (mo n a c h1 h2).1, (fun _ h => nomatch h), .nil, (fun _ h => nomatch h)⟩, .cons (.rol (.inr h) (relInts ns)) .nil, ?_⟩
    rw [e]
    exact fun ι' H' b st mo r => relW_bl r
theorem walk_T {l : PySem.W.OpenLaw} {n k : Nat} {q : Program} {loose : List Str} {XP : (Str → Option Value) → Heap → Prop} {YP : World → Heap → Prop} {d : DefRec} {x : Str} {F : Fn} {tl : List (Str × Str)}
    (hn : l.most = some n) (hn2 : n ≤ sizeLine) (hdf : d.params.defaults = []) (hr : Room k callerA)
    (hF : ∀ (w : World) (mg : Str → Option Value) (fa : Addr) (h : Heap), YP w h → h.Ns mainGlobals mg → mg d.name = some (.ref fa) → ∃ (K : PySem.W.Frag) (fd : FuncData), K.In h ∧ (tl.map (·.1)).all (lamB K) = true ∧ ((tl.map (·.1)).map (tabA K)).Nodup ∧ (∀ x ∈ tl.map (·.1), h.get? (tabA K x) = some tobj) ∧
      (∀ (s : Shared) (u : Value), BindsTo s fd ⟨[u], []⟩ [(x, u)]) ∧ ∀ base : Heap, K.In base → base.Ns mainGlobals mg → (∀ y ∈ tl.map (·.1), LamX.TabB base mg (codeA K y) (tabA K y)) → FnOk l.prog w K mg base (L2.CX l.prog w) k fa fd [x] (spD K 1 F))
    (hP : ∀ ns : List Int, ns.length ≤ n → ∀ w m, Begin tl ns w m → ∃ m', F [w] m = .ok (.d (.bool true)) m') : PySem.W.WalkO q loose XP YP l.row.toRowW d [] (fun f vs => PySem.call f vs) := by
  refine LamX.walk_ofTsE (CX := fun w => L2.CX l.prog w) (x := x) hn hn2 hdf hr (fun w mg fa h Y G hmg => ?_) fun w H s e s' hh => ?_
  · obtain ⟨K, fd, KX, h1, h2, h3, h4, h5⟩ := hF w mg fa h Y G hmg
    have hl := fun x hx => List.all_eq_true.mp h1 x hx
    have cb : ∀ y ∈ tl.map (·.1), PySem.W.codeHdIn K (codeA K y) (tabA K y) = true ∧ K.lookup (tabA K y) = none := fun y hy => by
      have := hl y hy
      unfold lamB at this
      simp only [Bool.and_eq_true, Option.isNone_iff_eq_none] at this
      exact ⟨this.2.1, this.2.2⟩
    refine ⟨K, KX, fd, (tl.map (·.1)).map fun y => (codeA K y, tabA K y), spD K 1 F, fun p hp => ?_, fun p hp => ?_, fun p hp => ?_, h4, fun H a ns hlen _ hH hS => ?_, fun base hb hg hT => h5 base hb hg fun y hy => hT _ (List.mem_map.mpr ⟨y, hy, rfl⟩)⟩
    · obtain ⟨y, hy, e⟩ := List.mem_map.mp hp
      subst e
      exact h3 y hy
    · obtain ⟨y, hy, e⟩ := List.mem_map.mp hp
      subst e
      exact (cb y hy).2
    · obtain ⟨y, hy, e⟩ := List.mem_map.mp hp
      subst e
      exact PySem.W.codeHd_of_K KX (cb y hy).1
    · exact law_endT hl h2 (fun y hy => hH _ (List.mem_map.mpr ⟨y, hy, rfl⟩)) hS (hP ns hlen)
  · obtain ⟨_, _, _, _, _, _, _, _, _, _, _, _, z⟩ := hh
    exact z.elim
end DL
set_option Elab.async false
set_option linter.all false
set_option maxRecDepth 100000
set_option maxHeartbeats 2000000
namespace Hn
open PySem PySem.Spec PyProof.Rows L2 DL 
noncomputable section
/-- _law_bag(script): 0=script 1=cell -/
def b__law_bag : Sm :=
sRet (eN lstO (aC (eC (.d (.int 0))) (aC (eC (.d (.int 1234567891))) (aC (eC (.d (.int 0))) (aC (eLc (iVal (eSl (eV 0) oNone (oSome (eC (.d (.int 63)))))) (.name 1) (fun _ m => .ok true m) (eN absO (aC (eV 1) aN)) [1]) aN)))))
@[irreducible] def N__law_bag : Fn := runF 2 b__law_bag
/-- _law_take(bag, many): 0=bag 1=many 2=cell 3=stirred 4=value 5=begin 6=second -/
def b__law_take : Sm :=
sSeq (sIf (b2 eqO (e2 ixO (eV 0) (eC (.d (.int 0)))) (eC (.d (.int 0))))
(sSeq (sSet 2 (e2 ixO (e2 addO (eSl (e2 ixO (eV 0) (eC (.d (.int 3)))) (oSome (e2 ixO (eV 0) (eC (.d (.int 2))))) oNone) (eN lstO (aC (eC (.d (.int 0))) aN))) (eC (.d (.int 0))))) <|
sSeq (sAugL iaddO (eV 0) (eC (.d (.int 2))) (eC (.d (.int 1)))) <|
sSeq (sIf (b2 geO (eV 2) (e2 powO (eC (.d (.int 10))) (eC (.d (.int 18)))))
(sSub (eV 0) (eC (.d (.int 0))) (eV 2))
(sNop)) <|
sSeq (sSet 3 (e2 addO (e2 addO (e2 mulO (e2 ixO (eV 0) (eC (.d (.int 1)))) (eC (.d (.int 48271)))) (e2 modO (eN intO1 (aC (eV 2) aN)) (eC (.d (.int 2147483647))))) (e2 mulO (eC (.d (.int 7919))) (e2 ixO (eV 0) (eC (.d (.int 2))))))) <|
sSub (eV 0) (eC (.d (.int 1))) (e2 modO (eN intO1 (aC (eV 3) aN)) (eC (.d (.int 2147483647)))))
(sNop)) <|
sSeq (sIf (b2 gtO (e2 ixO (eV 0) (eC (.d (.int 0)))) (eC (.d (.int 0))))
(sSeq (sSet 4 (e2 modO (eN intO1 (aC (e2 ixO (eV 0) (eC (.d (.int 0)))) aN)) (eV 1))) <|
sSeq (sSub (eV 0) (eC (.d (.int 0))) (e2 fdivO (eN intO1 (aC (e2 ixO (eV 0) (eC (.d (.int 0)))) aN)) (eV 1))) <|
sRet (eV 4))
(sNop)) <|
sSeq (sSet 5 (e2 modO (eN intO1 (aC (e2 mulO (e2 addO (e2 ixO (eV 0) (eC (.d (.int 1)))) (eC (.d (.int 1)))) (eC (.d (.int 39373)))) aN)) (eC (.d (.int 1000000007))))) <|
sSeq (sSet 6 (e2 modO (eN intO1 (aC (e2 mulO (e2 modO (eN intO1 (aC (e2 mulO (eV 5) (eV 5)) aN)) (eC (.d (.int 998244353)))) (eC (.d (.int 30011)))) aN)) (eC (.d (.int 998244353))))) <|
sRet (e2 modO (eN intO1 (aC (e2 fdivO (eV 6) (eC (.d (.int 7)))) aN)) (eV 1))
@[irreducible] def N__law_take : Fn := runF 7 b__law_take
/-- _law_some(bag, things): 0=bag 1=things -/
def b__law_some : Sm :=
sRet (e2 ixO (eV 1) (eCall 2 N__law_take (aC (eV 0) (aC (eN lenO (aC (eV 1) aN)) aN))))
@[irreducible] def N__law_some : Fn := runF 2 b__law_some
/-- _law_alike(found, due): 0=found 1=due 2=pairs 3=at 4=one 5=other -/
def b__law_alike : Sm :=
sSeq (sPar [2, 3] (aC (eN lstO (aC (eN tupO (aC (eV 0) (aC (eV 1) aN))) aN)) (aC (eC (.d (.int 0))) aN))) <|
sSeq (sWh (b2 ltO (eV 3) (eN lenO (aC (eV 2) aN)))
(sSeq (sAsg (.tup [.name 4, .name 5]) (e2 ixO (eV 2) (eV 3))) <|
sSeq (sAug 3 iaddO (eC (.d (.int 1)))) <|
sSeq (sIf (bOr (b2 neO (eIsi ["bool"] (eV 4)) (eIsi ["bool"] (eV 5))) (b2 neO (eIsi ["str"] (eV 4)) (eIsi ["str"] (eV 5))))
(sRet (eC (.d (.bool false))))
(sNop)) <|
sSeq (sIf (b2 neO (eIsi ["tuple", "list"] (eV 4)) (eIsi ["tuple", "list"] (eV 5)))
(sRet (eC (.d (.bool false))))
(sNop)) <|
sIf (bV (eIsi ["tuple", "list"] (eV 4)))
(sSeq (sIf (bOr (b2 neO (eIsi ["tuple"] (eV 4)) (eIsi ["tuple"] (eV 5))) (b2 neO (eN lenO (aC (eV 4) aN)) (eN lenO (aC (eV 5) aN))))
(sRet (eC (.d (.bool false))))
(sNop)) <|
sDrop (eM extO (eV 2) (aC (eN lzO (aC (eV 4) (aC (eV 5) aN))) aN)))
(sIf (b2 neO (eV 4) (eV 5))
(sRet (eC (.d (.bool false))))
(sNop)))) <|
sRet (eC (.d (.bool true)))
@[irreducible] def N__law_alike : Fn := runF 6 b__law_alike
end
end Hn
set_option Elab.async false
set_option linter.all false
set_option maxRecDepth 100000
set_option maxHeartbeats 2000000
namespace DL
open PySem PySem.Spec PyProof.Rows L2
/-! ### the plain side: what a denotation gives -/
def wpR {α : Type} (r : Rs α) (Q : α → Mm → Prop) : Prop := match r with
  | .ok a m => Q a m
  | _ => False
def wpO (r : Option (Wd × Mm)) (Q : Wd → Mm → Prop) : Prop := match r with
  | some (w, m) => Q w m
  | none => False
def wpS (r : Sr) (K : Env → Mm → Prop) (Q : Fl → Env → Mm → Prop) : Prop := match r with
  | .go .nx e m => K e m
  | .go f e m => Q f e m
  | _ => False
section
variable {α β : Type} {env : Env} {m : Mm} {Q : Wd → Mm → Prop} {K : Env → Mm → Prop} {QS : Fl → Env → Mm → Prop}
theorem wpR_ok {a : α} {Q : α → Mm → Prop} : wpR (.ok a m) Q ↔ Q a m := Iff.rfl
theorem wpR_bind {r : Rs α} {k : α → Mm → Rs β} {Q : β → Mm → Prop} : wpR (r.bind k) Q ↔ wpR r fun a m => wpR (k a m) Q := by
  cases r <;> exact Iff.rfl
theorem wpR_of {r : Option (Wd × Mm)} : wpR (Rs.of r) Q ↔ wpO r Q := by
  rcases r with _ | ⟨w, m⟩ <;> exact Iff.rfl
theorem wpR_mono {r : Rs α} {P Q : α → Mm → Prop} (h : wpR r P) (i : ∀ a m, P a m → Q a m) : wpR r Q := by
  cases r with
  | ok a m => exact i a m h
  | exc _ _ => exact h.elim
  | stuck => exact h.elim
theorem wpR_eq {r : Rs α} {Q : α → Mm → Prop} (h : wpR r Q) : ∃ a m, r = .ok a m ∧ Q a m := by
  cases r with
  | ok a m => exact ⟨a, m, rfl, h⟩
  | exc _ _ => exact h.elim
  | stuck => exact h.elim
theorem wpO_mono {r : Option (Wd × Mm)} {P Q : Wd → Mm → Prop} (h : wpO r P) (i : ∀ a m, P a m → Q a m) : wpO r Q := by
  rcases r with _ | ⟨w, m⟩
  · exact h.elim
  · exact i w m h
theorem wpS_mono {r : Sr} {K K' : Env → Mm → Prop} {Q Q' : Fl → Env → Mm → Prop} (h : wpS r K Q) (i : ∀ e m, K e m → K' e m) (j : ∀ f e m, f ≠ .nx → Q f e m → Q' f e m) : wpS r K' Q' := by
  cases r with
  | go f e m =>
    cases f with
    | nx => exact i e m h
    | rt w => exact j (.rt w) e m (by simp) h
    | bk => exact j .bk e m (by simp) h
    | ct => exact j .ct e m (by simp) h
  | exc _ _ _ => exact h.elim
  | stuck => exact h.elim
theorem w_C {w : Wd} : wpR (eC w env m) Q ↔ Q w m := Iff.rfl
theorem w_V {i : Nat} : wpR (eV i env m) Q ↔ ∃ w, env[i]? = some (some w) ∧ Q w m := by
  unfold eV
  split
  · rename_i w h
    exact ⟨fun q => ⟨w, h, q⟩, fun ⟨w', h', q⟩ => by rw [h] at h'; cases h'; exact q⟩
  · rename_i h
    exact ⟨fun q => q.elim, fun ⟨w', h', q⟩ => (h w' h').elim⟩
theorem w_aN {Q : List Wd → Mm → Prop} : wpR (aN env m) Q ↔ Q [] m := Iff.rfl
theorem w_aC {f : Em Wd} {g : Em (List Wd)} {Q : List Wd → Mm → Prop} : wpR (aC f g env m) Q ↔ wpR (f env m) fun w m1 => wpR (g env m1) fun ws m2 => Q (w :: ws) m2 := by
  unfold aC; simp only [wpR_bind, wpR_ok]
theorem w_e1 {g : Op1} {f : Em Wd} : wpR (e1 g f env m) Q ↔ wpR (f env m) fun a m1 => wpO (g a m1) Q := by
  unfold e1; simp only [wpR_bind, wpR_of]
theorem w_e2 {g : Op2} {fa fb : Em Wd} : wpR (e2 g fa fb env m) Q ↔ wpR (fa env m) fun a m1 => wpR (fb env m1) fun b m2 => wpO (g a b m2) Q := by
  unfold e2; simp only [wpR_bind, wpR_of]
theorem w_eN {g : OpN} {f : Em (List Wd)} : wpR (eN g f env m) Q ↔ wpR (f env m) fun ws m1 => wpO (g ws m1) Q := by
  unfold eN; simp only [wpR_bind, wpR_of]
theorem w_call {n : Nat} {F : Fn} {f : Em (List Wd)} : wpR (eCall n F f env m) Q ↔ wpR (f env m) fun ws m1 => ws.length = n ∧ wpR (F ws m1) Q := by
  unfold eCall
  rw [wpR_bind]
  constructor <;> refine fun h => wpR_mono h fun ws m1 h1 => ?_
  · by_cases e : ws.length = n
    · rw [if_pos e] at h1; exact ⟨e, h1⟩
    · rw [if_neg e] at h1; exact h1.elim
  · rw [if_pos h1.1]; exact h1.2
theorem w_b2 {g : Op2} {fa fb : Em Wd} {Q : Bool → Mm → Prop} : wpR (b2 g fa fb env m) Q ↔ wpR (fa env m) fun a m1 => wpR (fb env m1) fun b m2 => wpO (g a b m2) fun w m3 => ∃ k, w = .d (.bool k) ∧ Q k m3 := by
  unfold b2
  rw [wpR_bind, w_e2]
  have key : ∀ (w : Wd) (m : Mm), wpR (match asB w with | some b => Rs.ok b m | none => Rs.stuck) Q ↔ ∃ k, w = .d (.bool k) ∧ Q k m := fun w m => by
    cases q : asB w with
    | some b => rw [asB_ok q]; exact ⟨fun h => ⟨b, rfl, h⟩, fun ⟨k, e, h⟩ => by cases e; exact h⟩
    | none => exact ⟨fun h => h.elim, fun ⟨k, e, h⟩ => by subst e; cases q⟩
  constructor <;> exact fun h => wpR_mono h fun a m1 h => wpR_mono h fun b m2 h => wpO_mono h fun w m3 h => by first | exact (key w m3).mp h | exact (key w m3).mpr h
theorem w_bV {f : Em Wd} {Q : Bool → Mm → Prop} : wpR (bV f env m) Q ↔ wpR (f env m) fun w m1 => ∃ k, truO w m1 = some k ∧ Q k m1 := by
  unfold bV
  rw [wpR_bind]
  have key : ∀ (w : Wd) (m : Mm), wpR (match truO w m with | some b => Rs.ok b m | none => Rs.stuck) Q ↔ ∃ k, truO w m = some k ∧ Q k m := fun w m => by
    cases q : truO w m with
    | some b => exact ⟨fun h => ⟨b, rfl, h⟩, fun ⟨k, e, h⟩ => by cases e; exact h⟩
    | none => exact ⟨fun h => h.elim, fun ⟨k, e, h⟩ => by cases e⟩
  constructor <;> exact fun h => wpR_mono h fun w m1 h => by first | exact (key w m1).mp h | exact (key w m1).mpr h
theorem w_bAnd {f g : Em Bool} {Q : Bool → Mm → Prop} : wpR (bAnd f g env m) Q ↔ wpR (f env m) fun b m1 => if b = true then wpR (g env m1) Q else Q false m1 := by
  unfold bAnd
  rw [wpR_bind]
  constructor <;> refine fun h => wpR_mono h fun b m1 h => ?_ <;> (cases b <;> exact h)
theorem w_bOr {f g : Em Bool} {Q : Bool → Mm → Prop} : wpR (bOr f g env m) Q ↔ wpR (f env m) fun b m1 => if b = true then Q true m1 else wpR (g env m1) Q := by
  unfold bOr
  rw [wpR_bind]
  constructor <;> refine fun h => wpR_mono h fun b m1 h => ?_ <;> (cases b <;> exact h)
theorem w_bNot {f : Em Bool} {Q : Bool → Mm → Prop} : wpR (bNot f env m) Q ↔ wpR (f env m) fun b m1 => Q (!b) m1 := by
  unfold bNot
  rw [wpR_bind]; rfl
theorem w_eIf {c : Em Bool} {f g : Em Wd} : wpR (eIf c f g env m) Q ↔ wpR (c env m) fun b m1 => if b = true then wpR (f env m1) Q else wpR (g env m1) Q := by
  unfold eIf
  rw [wpR_bind]
  constructor <;> refine fun h => wpR_mono h fun b m1 h => ?_ <;> (cases b <;> exact h)
theorem w_eAnd {f g : Em Wd} : wpR (eAnd f g env m) Q ↔ wpR (f env m) fun w m1 => ∃ k, truO w m1 = some k ∧ if k = true then wpR (g env m1) Q else Q w m1 := by
  unfold eAnd
  rw [wpR_bind]
  constructor <;> refine fun h => wpR_mono h fun w m1 h => ?_
  · cases q : truO w m1 with
    | some b =>
      rw [q] at h
      refine ⟨b, rfl, ?_⟩
      cases b <;> exact h
    | none => rw [q] at h; exact h.elim
  · obtain ⟨k, e, h⟩ := h
    rw [e]
    cases k <;> exact h
theorem w_eOr {f g : Em Wd} : wpR (eOr f g env m) Q ↔ wpR (f env m) fun w m1 => ∃ k, truO w m1 = some k ∧ if k = true then Q w m1 else wpR (g env m1) Q := by
  unfold eOr
  rw [wpR_bind]
  constructor <;> refine fun h => wpR_mono h fun w m1 h => ?_
  · cases q : truO w m1 with
    | some b =>
      rw [q] at h
      refine ⟨b, rfl, ?_⟩
      cases b <;> exact h
    | none => rw [q] at h; exact h.elim
  · obtain ⟨k, e, h⟩ := h
    rw [e]
    cases k <;> exact h
theorem w_eNot {f : Em Wd} : wpR (eNot f env m) Q ↔ wpR (f env m) fun w m1 => ∃ k, truO w m1 = some k ∧ Q (.d (.bool (!k))) m1 := by
  unfold eNot
  rw [wpR_bind]
  constructor <;> refine fun h => wpR_mono h fun w m1 h => ?_
  · cases q : truO w m1 with
    | some b => rw [q] at h; exact ⟨b, rfl, h⟩
    | none => rw [q] at h; exact h.elim
  · obtain ⟨k, e, h⟩ := h
    rw [e]; exact h
theorem w_eCh {g g' : Op2} {fa fb fc : Em Wd} : wpR (eCh g g' fa fb fc env m) Q ↔ wpR (fa env m) fun a m1 => wpR (fb env m1) fun b m2 => wpO (g a b m2) fun z m3 => ∃ k, z = .d (.bool k) ∧ if k = true then wpR (fc env m3) fun c m4 => wpO (g' b c m4) Q else Q (.d (.bool false)) m3 := by
  unfold eCh
  simp only [wpR_bind, wpR_of]
  have key : ∀ (b w : Wd) (m : Mm), wpR (match asB w with | some k => if k = true then (fc env m).bind fun c m => Rs.of (g' b c m) else Rs.ok (.d (.bool false)) m | none => Rs.stuck) Q ↔ ∃ k, w = .d (.bool k) ∧ if k = true then wpR (fc env m) fun c m4 => wpO (g' b c m4) Q else Q (.d (.bool false)) m := fun b w m => by
    cases q : asB w with
    | some k =>
      rw [asB_ok q]
      constructor
      · intro h
        refine ⟨k, rfl, ?_⟩
        cases k with
        | false => exact h
        | true =>
          have h' : wpR ((fc env m).bind fun c m => Rs.of (g' b c m)) Q := h
          simp only [wpR_bind, wpR_of] at h'
          exact h'
      · rintro ⟨k', e, h⟩
        cases e
        cases k with
        | false => exact h
        | true =>
          show wpR ((fc env m).bind fun c m => Rs.of (g' b c m)) Q
          simp only [wpR_bind, wpR_of]
          exact h
    | none => exact ⟨fun h => h.elim, fun ⟨k, e, h⟩ => by subst e; cases q⟩
  constructor <;> exact fun h => wpR_mono h fun a m1 h => wpR_mono h fun b m2 h => wpO_mono h fun w m3 h => by first | exact (key b w m3).mp h | exact (key b w m3).mpr h
theorem w_bCh {g g' : Op2} {fa fb fc : Em Wd} {Q : Bool → Mm → Prop} : wpR (bCh g g' fa fb fc env m) Q ↔ wpR (eCh g g' fa fb fc env m) fun w m1 => ∃ k, w = .d (.bool k) ∧ Q k m1 := by
  unfold bCh
  rw [wpR_bind]
  have key : ∀ (w : Wd) (m : Mm), wpR (match asB w with | some b => Rs.ok b m | none => Rs.stuck) Q ↔ ∃ k, w = .d (.bool k) ∧ Q k m := fun w m => by
    cases q : asB w with
    | some b => rw [asB_ok q]; exact ⟨fun h => ⟨b, rfl, h⟩, fun ⟨k, e, h⟩ => by cases e; exact h⟩
    | none => exact ⟨fun h => h.elim, fun ⟨k, e, h⟩ => by subst e; cases q⟩
  constructor <;> exact fun h => wpR_mono h fun w m3 h => by first | exact (key w m3).mp h | exact (key w m3).mpr h
theorem w_oN {Q : Option Int → Mm → Prop} : wpR (oNone env m) Q ↔ Q none m := Iff.rfl
theorem w_oS {f : Em Wd} {Q : Option Int → Mm → Prop} : wpR (oSome f env m) Q ↔ wpR (f env m) fun w m1 => ∃ i, w = .d (.int i) ∧ Q (some i) m1 := by
  unfold oSome
  rw [wpR_bind]
  constructor <;> refine fun h => wpR_mono h fun w m1 h => ?_
  · split at h
    · rename_i i
      exact ⟨i, rfl, h⟩
    · exact h.elim
  · obtain ⟨i, e, h⟩ := h
    subst e; exact h
theorem w_sl {f : Em Wd} {lo hi : Eo} : wpR (eSl f lo hi env m) Q ↔ wpR (f env m) fun w m1 => wpR (lo env m1) fun l m2 => wpR (hi env m2) fun h m3 => wpO (slO w l h m3) Q := by
  unfold eSl; simp only [wpR_bind, wpR_of]
theorem w_eIsi {Ts : List String} {f : Em Wd} : wpR (eIsi Ts f env m) Q ↔ wpR (f env m) fun w m1 => ∃ a, tyName m1 w = some a ∧ Q (.d (.bool (Ts.any (isT a)))) m1 := by
  unfold eIsi
  rw [w_e1]
  constructor <;> refine fun h => wpR_mono h fun w m1 h => ?_
  · unfold isiO at h
    cases q : tyName m1 w with
    | some a => rw [q] at h; exact ⟨a, rfl, h⟩
    | none => rw [q] at h; exact h.elim
  · obtain ⟨a, e, h⟩ := h
    unfold isiO
    rw [e]; exact h
/-! statements -/
theorem wpS_rs {r : Rs α} {k : α → Mm → Sr} : wpS (rs r env k) K QS ↔ wpR r fun a m1 => wpS (k a m1) K QS := by
  cases r <;> exact Iff.rfl
theorem w_seq {f g : Sm} : wpS (sSeq f g env m) K QS ↔ wpS (f env m) (fun e m1 => wpS (g e m1) K QS) QS := by
  unfold sSeq
  cases f env m with
  | go fl e m1 => cases fl <;> exact Iff.rfl
  | exc _ _ _ => exact Iff.rfl
  | stuck => exact Iff.rfl
theorem w_nop : wpS (sNop env m) K QS ↔ K env m := Iff.rfl
theorem w_drop {f : Em Wd} : wpS (sDrop f env m) K QS ↔ wpR (f env m) fun _ m1 => K env m1 := by unfold sDrop; rw [wpS_rs]; rfl
theorem w_ret {f : Em Wd} : wpS (sRet f env m) K QS ↔ wpR (f env m) fun w m1 => QS (.rt w) env m1 := by unfold sRet; rw [wpS_rs]; rfl
theorem w_retN : wpS (sRetN env m) K QS ↔ QS (.rt (.d .none)) env m := Iff.rfl
theorem w_bk : wpS (sBk env m) K QS ↔ QS .bk env m := Iff.rfl
theorem w_ct : wpS (sCt env m) K QS ↔ QS .ct env m := Iff.rfl
theorem w_if {c : Em Bool} {f g : Sm} : wpS (sIf c f g env m) K QS ↔ wpR (c env m) fun b m1 => if b = true then wpS (f env m1) K QS else wpS (g env m1) K QS := by
  unfold sIf
  rw [wpS_rs]
  constructor <;> refine fun h => wpR_mono h fun b m1 h => ?_ <;> (cases b <;> exact h)
theorem w_set {i : Nat} {f : Em Wd} : wpS (sSet i f env m) K QS ↔ wpR (f env m) fun w m1 => K (env.set i (some w)) m1 := by unfold sSet; rw [wpS_rs]; rfl
theorem w_asg {t : Tg} {f : Em Wd} : wpS (sAsg t f env m) K QS ↔ wpR (f env m) fun w m1 => ∃ e, t.put w env = some e ∧ K e m1 := by
  unfold sAsg
  rw [wpS_rs]
  constructor <;> refine fun h => wpR_mono h fun w m1 h => ?_
  · cases q : t.put w env with
    | some e => rw [q] at h; exact ⟨e, rfl, h⟩
    | none => rw [q] at h; exact h.elim
  · obtain ⟨e, q, h⟩ := h
    rw [q]; exact h
theorem w_par {is : List Nat} {f : Em (List Wd)} : wpS (sPar is f env m) K QS ↔ wpR (f env m) fun ws m1 => ∃ e, setsE is ws env = some e ∧ K e m1 := by
  unfold sPar
  rw [wpS_rs]
  constructor <;> refine fun h => wpR_mono h fun w m1 h => ?_
  · cases q : setsE is w env with
    | some e => rw [q] at h; exact ⟨e, rfl, h⟩
    | none => rw [q] at h; exact h.elim
  · obtain ⟨e, q, h⟩ := h
    rw [q]; exact h
theorem w_sub {fo fi fv : Em Wd} : wpS (sSub fo fi fv env m) K QS ↔ wpR (fv env m) fun v m1 => wpR (fo env m1) fun o m2 => wpR (fi env m2) fun i m3 => ∃ m4, setO o i v m3 = some m4 ∧ K env m4 := by
  unfold sSub
  simp only [wpS_rs]
  constructor <;> refine fun h => wpR_mono h fun v m1 h => wpR_mono h fun o m2 h => wpR_mono h fun i m3 h => ?_
  · cases q : setO o i v m3 with
    | some e => rw [q] at h; exact ⟨e, rfl, h⟩
    | none => rw [q] at h; exact h.elim
  · obtain ⟨e, q, h⟩ := h
    rw [q]; exact h
theorem w_aug {i : Nat} {g : Op2} {f : Em Wd} : wpS (sAug i g f env m) K QS ↔ ∃ x, env[i]? = some (some x) ∧ wpR (f env m) fun y m1 => wpO (g x y m1) fun z m2 => K (env.set i (some z)) m2 := by
  unfold sAug
  split
  · rename_i x h
    simp only [wpS_rs, wpR_of]
    exact ⟨fun q => ⟨x, h, q⟩, fun ⟨x', e, q⟩ => by rw [h] at e; cases e; exact q⟩
  · rename_i h
    exact ⟨fun q => q.elim, fun ⟨x', e, q⟩ => (h x' e).elim⟩
theorem w_augL {g : Op2} {fo fi fv : Em Wd} : wpS (sAugL g fo fi fv env m) K QS ↔ wpR (fo env m) fun o m1 => wpR (fi env m1) fun i m2 => ∃ x, ixLO o i m2 = some x ∧ wpR (fv env m2) fun y m3 => wpO (g x y m3) fun z m4 => ∃ m5, setO o i z m4 = some m5 ∧ K env m5 := by
  unfold sAugL
  simp only [wpS_rs]
  constructor <;> refine fun h => wpR_mono h fun o m1 h => wpR_mono h fun i m2 h => ?_
  · cases q : ixLO o i m2 with
    | none => rw [q] at h; exact h.elim
    | some x =>
      rw [q] at h
      refine ⟨x, rfl, ?_⟩
      simp only [wpS_rs, wpR_of] at h
      refine wpR_mono h fun y m3 h => wpO_mono h fun z m4 h => ?_
      cases q : setO o i z m4 with
      | some e => rw [q] at h; exact ⟨e, rfl, h⟩
      | none => rw [q] at h; exact h.elim
  · obtain ⟨x, e, h⟩ := h
    rw [e]
    simp only [wpS_rs, wpR_of]
    refine wpR_mono h fun y m3 h => wpO_mono h fun z m4 h => ?_
    obtain ⟨e, q, h⟩ := h
    rw [q]; exact h
theorem w_method {g : Wd → List Wd → Mm → Option (Wd × Mm)} {f : Em Wd} {fa : Em (List Wd)} : wpR (eM g f fa env m) Q ↔ wpR (f env m) fun w m1 => ∃ n xs, w = .ref n ∧ m1.cells[n]? = some (.lst xs) ∧ wpR (fa env m1) fun ws m2 => wpO (g w ws m2) Q := by
  unfold eM
  rw [wpR_bind]
  constructor <;> refine fun h => wpR_mono h fun w m1 h => ?_
  · split at h
    · rename_i n
      split at h
      · rename_i xs e
        simp only [wpR_bind, wpR_of] at h
        exact ⟨n, xs, rfl, e, h⟩
      · exact h.elim
    · exact h.elim
  · obtain ⟨n, xs, rfl, e, h⟩ := h
    simp only [e, wpR_bind, wpR_of]
    exact h
end
end DL
set_option Elab.async false
set_option linter.all false
set_option maxRecDepth 100000
set_option maxHeartbeats 2000000
namespace DL
open PySem PySem.Spec PyProof.Rows L2
/-! ### cells that stand, a frame -/
def Has (m : Mm) (n : Nat) (c : Cell) : Prop := m.cells[n]? = some c
/-- what stood before stands, but for the cells in S -/
structure Fr (S : List Nat) (m m' : Mm) : Prop where
  le : m.cells.length ≤ m'.cells.length
  eq : ∀ j, j < m.cells.length → j ∉ S → m'.cells[j]? = m.cells[j]?
/-- behind a scope's end -/
structure Cl (n0 : Nat) (held : Bool) (m m' : Mm) : Prop where
  le : n0 ≤ m.cells.length → n0 ≤ m'.cells.length
  eq : ∀ j, j < n0 → m'.cells[j]? = m.cells[j]?
  same : held = false → m'.cells = m.cells
section
variable {m m' m1 m2 : Mm} {S S' : List Nat} {n k : Nat} {c c' : Cell}
theorem Has.lt (h : Has m n c) : n < m.cells.length := (List.getElem?_eq_some_iff.mp h).1
theorem Has.inj (h : Has m n c) (h' : Has m n c') : c = c' := Option.some.inj (h.symm.trans h')
theorem Fr.refl : Fr S m m := ⟨Nat.le_refl _, fun _ _ _ => rfl⟩
theorem Fr.trans (a : Fr S m m1) (b : Fr S m1 m2) : Fr S m m2 := ⟨Nat.le_trans a.le b.le, fun j h n => (b.eq j (Nat.lt_of_lt_of_le h a.le) n).trans (a.eq j h n)⟩
theorem Fr.sub (a : Fr S m m') (h : ∀ j ∈ S, j ∈ S' ∨ m.cells.length ≤ j) : Fr S' m m' := ⟨a.le, fun j hj n => a.eq j hj fun x => by rcases h j x with q | q; exact n q; omega⟩
theorem Fr.any (a : Fr [] m m') : Fr S m m' := ⟨a.le, fun j hj _ => a.eq j hj (by simp)⟩
theorem Fr.has (a : Fr S m m') (h : Has m n c) (hn : n ∉ S := by simp) : Has m' n c := (a.eq n h.lt hn).trans h
theorem Fr.cl {b : Bool} (a : Fr S m m1) (h : Cl m.cells.length b m1 m2) : Fr S m m2 := ⟨h.le a.le, fun j hj hn => (h.eq j hj).trans (a.eq j hj hn)⟩
theorem fr_push : Fr S m (m.push c) := ⟨by simp [Mm.push], fun j hj _ => by show (m.cells ++ [c])[j]? = _; rw [List.getElem?_append_left hj]⟩
theorem has_push : Has (m.push c) m.cells.length c := by show (m.cells ++ [c])[_]? = _; rw [List.getElem?_append_right (Nat.le_refl _)]; simp
theorem Has.push (h : Has m n c) : Has (m.push c') n c := (fr_push (S := [])).has h
theorem fr_put {p : Bool} (h : n ∈ S) : Fr S m (m.put n c p) := ⟨by simp [Mm.put], fun j hj hn => by
  show (m.cells.set n c)[j]? = _
  exact List.getElem?_set_ne fun (e : n = j) => hn (by rw [← e]; exact h)⟩
theorem has_put {p : Bool} (h : n < m.cells.length) : Has (m.put n c p) n c := by show (m.cells.set n c)[n]? = _; rw [List.getElem?_set_self h]
theorem Has.put {p : Bool} (h : Has m n c) (hn : k ≠ n) : Has (m.put k c' p) n c := by show (m.cells.set k c')[n]? = _; rw [List.getElem?_set_ne hn]; exact h
theorem fr_open : Fr S m m.openS := ⟨Nat.le_refl _, fun _ _ _ => rfl⟩
theorem Has.open (h : Has m n c) : Has m.openS n c := h
theorem Fr.of_open (h : Fr S m.openS m') : Fr S m m' := ⟨h.le, h.eq⟩
theorem cl_close {n0 : Nat} {b : Bool} : Cl n0 b m (m.closeS n0 b) := by
  unfold Mm.closeS
  split
  · exact ⟨fun h => h, fun _ _ => rfl, fun _ => rfl⟩
  · rename_i b0 ds r e
    split
    · rename_i h
      simp only [Bool.and_eq_true, decide_eq_true_eq] at h
      refine ⟨fun h2 => by simp; omega, fun j hj => ?_, fun hb => ?_⟩
      · show (m.cells.take n0)[j]? = _
        rw [List.getElem?_take_of_lt hj]
      · rw [hb] at h
        exact absurd h.1.2 (by decide)
    · exact ⟨fun h => h, fun _ _ => rfl, fun _ => rfl⟩
end
section
variable {env : Env} {m : Mm} {Q : Wd → Mm → Prop} {K : Env → Mm → Prop} {QS : Fl → Env → Mm → Prop}
theorem w_run {n : Nat} {b : Sm} {ws : List Wd} (h : wpS (b (startE n ws) m.openS) (fun _ m1 => ∀ m2, Cl m.cells.length true m1 m2 → Q (.d .none) m2) (fun f _ m1 => ∃ w, f = .rt w ∧ ∀ m2, Cl m.cells.length (w.lt m.cells.length) m1 m2 → Q w m2)) : wpR (runF n b ws m) Q := by
  unfold runF
  cases q : b (startE n ws) m.openS with
  | go f e m1 =>
    rw [q] at h
    cases f with
    | nx => exact h _ cl_close
    | rt w => obtain ⟨w', e', h⟩ := h; cases e'; exact h _ cl_close
    | bk => obtain ⟨w', e', h⟩ := h; cases e'
    | ct => obtain ⟨w', e', h⟩ := h; cases e'
  | exc _ _ _ => rw [q] at h; exact h.elim
  | stuck => rw [q] at h; exact h.elim
/-- a loop's other ends -/
def brk (K : Env → Mm → Prop) (C : Env → Mm → Prop) (QS : Fl → Env → Mm → Prop) : Fl → Env → Mm → Prop
  | .ct => C
  | .bk => K
  | f => QS f
theorem w_while {c : Em Bool} {b : Sm} (I : Nat → Env → Mm → Prop) (hs : ∀ k e m, I k e m → wpR (c e m) fun t m1 => if t = true then wpS (b e m1) (fun e' m' => ∃ k', k' < k ∧ I k' e' m') (brk K (fun e' m' => ∃ k', k' < k ∧ I k' e' m') QS) else K e m1) :
    ∀ (k : Nat) (env : Env) (m : Mm), I k env m → wpS (sWh c b env m) K QS := by
  intro k
  induction k using Nat.strongRecOn with
  | _ k ih =>
    intro env m h0
    rw [sWh_unf, wpS_rs]
    refine wpR_mono (hs k env m h0) fun t m1 h => ?_
    cases t with
    | false => exact h
    | true =>
      rw [if_pos rfl] at h ⊢
      cases q : b env m1 with
      | go f e m2 =>
        rw [q] at h
        cases f with
        | nx => obtain ⟨k', hk, h⟩ := h; exact ih k' hk e m2 h
        | ct => obtain ⟨k', hk, h⟩ := h; exact ih k' hk e m2 h
        | bk => exact h
        | rt w => exact h
      | exc _ _ _ => rw [q] at h; exact h.elim
      | stuck => rw [q] at h; exact h.elim
theorem w_for {s : Em (List Wd × Gd)} {t : Tg} {b : Sm} : wpS (sFor s t b env m) K QS ↔ wpR (s env m) fun p m1 => wpS (forL t b p.2 p.1 env m1) K QS := by unfold sFor; rw [wpS_rs]
theorem w_forL {t : Tg} {b : Sm} {gd : Gd} (I : Nat → Env → Mm → Prop) (xs : List Wd) (hg : ∀ k e m, I k e m → gdOk gd m = true) (hs : ∀ k e m w, xs[k]? = some w → I k e m → ∃ e', t.put w e = some e' ∧ wpS (b e' m) (I (k + 1)) (brk K (I (k + 1)) QS)) (hd : ∀ e m, I xs.length e m → K e m) :
    ∀ (ys : List Wd) (k : Nat) (env : Env) (m : Mm), xs.drop k = ys → k + ys.length = xs.length → I k env m → wpS (forL t b gd ys env m) K QS
  | [], k, env, m, e, hl, h => by
    unfold forL
    rw [if_pos (hg k env m h)]
    have : k = xs.length := by simpa using hl
    subst this
    exact hd env m h
  | w :: ys, k, env, m, e, hl, h => by
    unfold forL
    rw [if_pos (hg k env m h)]
    have hw : xs[k]? = some w := by
      have : (xs.drop k)[0]? = some w := by rw [e]; rfl
      rwa [List.getElem?_drop, Nat.add_zero] at this
    have e2 : xs.drop (k + 1) = ys := by rw [← List.drop_drop, e]; rfl
    obtain ⟨e', q, hb⟩ := hs k env m w hw h
    rw [q]
    simp only []
    have ih := fun env m h => w_forL I xs hg hs hd ys (k + 1) env m e2 (by simp at hl; omega) h
    cases qb : b e' m with
    | go f e3 m3 =>
      rw [qb] at hb
      cases f with
      | nx => exact ih e3 m3 hb
      | ct => exact ih e3 m3 hb
      | bk => exact hb
      | rt w => exact hb
    | exc _ _ _ => rw [qb] at hb; exact hb.elim
    | stuck => rw [qb] at hb; exact hb.elim
theorem w_for0 {t : Tg} {b : Sm} {gd : Gd} (I : Nat → Env → Mm → Prop) {xs : List Wd} (h0 : I 0 env m) (hg : ∀ k e m, I k e m → gdOk gd m = true) (hs : ∀ k e m w, xs[k]? = some w → I k e m → ∃ e', t.put w e = some e' ∧ wpS (b e' m) (I (k + 1)) (brk K (I (k + 1)) QS)) (hd : ∀ e m, I xs.length e m → K e m) :
    wpS (forL t b gd xs env m) K QS := w_forL I xs hg hs hd xs 0 env m (by simp) (by simp) h0
theorem w_lcL {t : Tg} {c : Em Bool} {f : Em Wd} {gd : Gd} {e0 : Env} (I : Nat → List Wd → Mm → Prop) (xs : List Wd) (hg : ∀ k acc m, I k acc m → gdOk gd m = true)
    (hs : ∀ k acc m w, xs[k]? = some w → I k acc m → ∃ e, t.put w e0 = some e ∧ wpR (c e m) fun b m2 => if b = true then wpR (f e m2) fun x m3 => acc.length < LIM ∧ I (k + 1) (acc ++ [x]) m3 else I (k + 1) acc m2) :
    ∀ (ys : List Wd) (k : Nat) (acc : List Wd) (m : Mm), xs.drop k = ys → k + ys.length = xs.length → I k acc m → wpR (lcL t c f gd e0 ys acc m) (I xs.length)
  | [], k, acc, m, e, hl, h => by
    unfold lcL
    rw [if_pos (hg k acc m h)]
    have : k = xs.length := by simpa using hl
    subst this
    exact h
  | w :: ys, k, acc, m, e, hl, h => by
    unfold lcL
    rw [if_pos (hg k acc m h)]
    have hw : xs[k]? = some w := by
      have : (xs.drop k)[0]? = some w := by rw [e]; rfl
      rwa [List.getElem?_drop, Nat.add_zero] at this
    have e2 : xs.drop (k + 1) = ys := by rw [← List.drop_drop, e]; rfl
    obtain ⟨e', q, hb⟩ := hs k acc m w hw h
    have ih := fun acc m h => w_lcL I xs hg hs ys (k + 1) acc m e2 (by simp at hl; omega) h
    rw [q]
    simp only [wpR_bind]
    refine wpR_mono hb fun b m2 h => ?_
    cases b with
    | false => exact ih acc m2 h
    | true =>
      rw [if_pos rfl] at h ⊢
      rw [wpR_bind]
      refine wpR_mono h fun x m3 h => ?_
      rw [if_pos h.1]
      exact ih _ m3 h.2
theorem w_lc {s : Em (List Wd × Gd)} {t : Tg} {c : Em Bool} {f : Em Wd} {own : List Nat} : wpR (eLc s t c f own env m) Q ↔ wpR (s env m) fun p m1 => wpR (lcL t c f p.2 (forget own env) p.1 [] m1) fun acc m2 => Q (.ref m2.cells.length) (m2.push (.lst acc)) := by
  unfold eLc
  rw [wpR_bind]
  constructor <;> refine fun h => wpR_mono h fun p m1 h => ?_
  · cases q : lcL t c f p.2 (forget own env) p.1 [] m1 with
    | ok acc m2 => rw [q] at h; exact h
    | exc _ _ => rw [q] at h; exact h.elim
    | stuck => rw [q] at h; exact h.elim
  · cases q : lcL t c f p.2 (forget own env) p.1 [] m1 with
    | ok acc m2 => rw [q] at h; exact h
    | exc _ _ => rw [q] at h; exact h.elim
    | stuck => rw [q] at h; exact h.elim
theorem w_lc0 {t : Tg} {c : Em Bool} {f : Em Wd} {gd : Gd} {e0 : Env} (I : Nat → List Wd → Mm → Prop) {xs : List Wd} {R : List Wd → Mm → Prop} (h0 : I 0 [] m) (hg : ∀ k acc m, I k acc m → gdOk gd m = true)
    (hs : ∀ k acc m w, xs[k]? = some w → I k acc m → ∃ e, t.put w e0 = some e ∧ wpR (c e m) fun b m2 => if b = true then wpR (f e m2) fun x m3 => acc.length < LIM ∧ I (k + 1) (acc ++ [x]) m3 else I (k + 1) acc m2)
    (hd : ∀ acc m, I xs.length acc m → R acc m) : wpR (lcL t c f gd e0 xs [] m) R := wpR_mono (w_lcL I xs hg hs xs 0 [] m (by simp) (by simp) h0) hd
theorem w_val {f : Em Wd} {Q : List Wd × Gd → Mm → Prop} : wpR (iVal f env m) Q ↔ wpR (f env m) fun w m1 => wpR (iVal (eC w) env m1) Q := by
  unfold iVal
  rw [wpR_bind]
  constructor <;> exact fun h => wpR_mono h fun w m1 h => h
theorem w_ran1 {f : Em (List Wd)} {Q : List Wd × Gd → Mm → Prop} : wpR (iRan1 f env m) Q ↔ wpR (f env m) fun ws m1 => ∃ j, ws = [.d (.int j)] ∧ range62 j = true ∧ Q (intsFrom 0 j.toNat, []) m1 := by
  unfold iRan1
  rw [wpR_bind]
  constructor <;> refine fun h => wpR_mono h fun ws m1 h => ?_
  · split at h
    · rename_i j
      by_cases q : range62 j = true
      · rw [if_pos q] at h; exact ⟨j, rfl, q, h⟩
      · rw [if_neg q] at h; exact h.elim
    · exact h.elim
  · obtain ⟨j, e, q, h⟩ := h
    subst e
    simp only [if_pos q]
    exact h
theorem w_ran2 {f : Em (List Wd)} {Q : List Wd × Gd → Mm → Prop} : wpR (iRan2 f env m) Q ↔ wpR (f env m) fun ws m1 => ∃ i j, ws = [.d (.int i), .d (.int j)] ∧ (range62 i && range62 j) = true ∧ Q (intsFrom i (j - i).toNat, []) m1 := by
  unfold iRan2
  rw [wpR_bind]
  constructor <;> refine fun h => wpR_mono h fun ws m1 h => ?_
  · split at h
    · rename_i i j
      by_cases q : (range62 i && range62 j) = true
      · rw [if_pos q] at h; exact ⟨i, j, rfl, q, h⟩
      · rw [if_neg q] at h; exact h.elim
    · exact h.elim
  · obtain ⟨i, j, e, q, h⟩ := h
    subst e
    simp only [if_pos q]
    exact h
theorem w_dcL {t : Tg} {c : Em Bool} {fk fv : Em Wd} {gd : Gd} {e0 : Env} (I : Nat → List (PyData × Wd) → Mm → Prop) (xs : List Wd) (hg : ∀ k acc m, I k acc m → gdOk gd m = true)
    (hs : ∀ k acc m w, xs[k]? = some w → I k acc m → ∃ e, t.put w e0 = some e ∧ wpR (c e m) fun b m2 => if b = true then wpR (fk e m2) fun y m3 => wpR (fv e m3) fun x m4 => ∃ ky, keyW y = some ky ∧ acc.length < LIM ∧ I (k + 1) (putW acc ky x) m4 else I (k + 1) acc m2) :
    ∀ (ys : List Wd) (k : Nat) (acc : List (PyData × Wd)) (m : Mm), xs.drop k = ys → k + ys.length = xs.length → I k acc m → wpR (dcL t c fk fv gd e0 ys acc m) (I xs.length)
  | [], k, acc, m, e, hl, h => by
    unfold dcL
    rw [if_pos (hg k acc m h)]
    have : k = xs.length := by simpa using hl
    subst this
    exact h
  | w :: ys, k, acc, m, e, hl, h => by
    unfold dcL
    rw [if_pos (hg k acc m h)]
    have hw : xs[k]? = some w := by
      have : (xs.drop k)[0]? = some w := by rw [e]; rfl
      rwa [List.getElem?_drop, Nat.add_zero] at this
    have e2 : xs.drop (k + 1) = ys := by rw [← List.drop_drop, e]; rfl
    obtain ⟨e', q, hb⟩ := hs k acc m w hw h
    have ih := fun acc m h => w_dcL I xs hg hs ys (k + 1) acc m e2 (by simp at hl; omega) h
    rw [q]
    simp only [wpR_bind]
    refine wpR_mono hb fun b m2 h => ?_
    cases b with
    | false => exact ih acc m2 h
    | true =>
      rw [if_pos rfl] at h ⊢
      rw [wpR_bind]
      refine wpR_mono h fun y m3 h => ?_
      rw [wpR_bind]
      refine wpR_mono h fun x m4 h => ?_
      obtain ⟨ky, e3, hl3, h⟩ := h
      rw [e3]
      simp only [if_pos hl3]
      exact ih _ m4 h
theorem w_dc {s : Em (List Wd × Gd)} {t : Tg} {c : Em Bool} {fk fv : Em Wd} {own : List Nat} : wpR (eDc s t c fk fv own env m) Q ↔ wpR (s env m) fun p m1 => wpR (dcL t c fk fv p.2 (forget own env) p.1 [] m1) fun acc m2 => Q (.ref m2.cells.length) (m2.push (.dct acc)) := by
  unfold eDc
  rw [wpR_bind]
  constructor <;> refine fun h => wpR_mono h fun p m1 h => ?_
  · cases q : dcL t c fk fv p.2 (forget own env) p.1 [] m1 with
    | ok acc m2 => rw [q] at h; exact h
    | exc _ _ => rw [q] at h; exact h.elim
    | stuck => rw [q] at h; exact h.elim
  · cases q : dcL t c fk fv p.2 (forget own env) p.1 [] m1 with
    | ok acc m2 => rw [q] at h; exact h
    | exc _ _ => rw [q] at h; exact h.elim
    | stuck => rw [q] at h; exact h.elim
end
end DL
set_option Elab.async false
set_option linter.all false
set_option maxRecDepth 100000
set_option maxHeartbeats 2000000
namespace DL
open PySem PySem.Spec PyProof.Rows L2
theorem w_cut {env : DL.Env} {m : Mm} {f g : Sm} {K K1 : DL.Env → Mm → Prop} {Q : Fl → DL.Env → Mm → Prop} (h : wpS (f env m) K1 Q) (h2 : ∀ e m1, K1 e m1 → wpS (g e m1) K Q) : wpS (sSeq f g env m) K Q :=
  w_seq.mpr (wpS_mono h h2 fun _ _ _ _ q => q)
section
variable {m : Mm} {Q : Wd → Mm → Prop} {a b : Int} {n : Nat} {xs ys : List Wd}
theorem o1_add : wpO (addO (.d (.int a)) (.d (.int b)) m) Q ↔ Q (.d (.int (a + b))) m := Iff.rfl
theorem o1_sub : wpO (subO (.d (.int a)) (.d (.int b)) m) Q ↔ Q (.d (.int (a - b))) m := Iff.rfl
theorem o1_iadd : wpO (iaddO (.d (.int a)) (.d (.int b)) m) Q ↔ Q (.d (.int (a + b))) m := Iff.rfl
theorem o1_lt : wpO (ltO (.d (.int a)) (.d (.int b)) m) Q ↔ Q (.d (.bool (decide (a < b)))) m := Iff.rfl
theorem o1_le : wpO (leO (.d (.int a)) (.d (.int b)) m) Q ↔ Q (.d (.bool (decide (a ≤ b)))) m := Iff.rfl
theorem o1_gt : wpO (gtO (.d (.int a)) (.d (.int b)) m) Q ↔ Q (.d (.bool (decide (b < a)))) m := Iff.rfl
theorem o1_ge : wpO (geO (.d (.int a)) (.d (.int b)) m) Q ↔ Q (.d (.bool (decide (b ≤ a)))) m := Iff.rfl
theorem o1_neg : wpO (negO (.d (.int a)) m) Q ↔ Q (.d (.int (-a))) m := Iff.rfl
theorem o1_and : wpO (andO (.d (.int a)) (.d (.int b)) m) Q ↔ Q (.d (.int (Builtin.bitAnd a b))) m := Iff.rfl
theorem intO_wp {C : Int → Int → Bool} {g : Int → Int → PyData} : wpO (intO C g (.d (.int a)) (.d (.int b)) m) Q ↔ C a b = true ∧ Q (.d (g a b)) m := by
  unfold intO
  by_cases h : C a b = true
  · simp only [if_pos h]; exact ⟨fun q => ⟨h, q⟩, fun q => q.2⟩
  · simp only [if_neg h]; exact ⟨fun q => q.elim, fun q => (h q.1).elim⟩
theorem o1_mod : wpO (modO (.d (.int a)) (.d (.int b)) m) Q ↔ 0 < b ∧ Q (.d (.int (a % b))) m := by
  unfold modO; rw [intO_wp, decide_eq_true_eq]
theorem o1_fdiv : wpO (fdivO (.d (.int a)) (.d (.int b)) m) Q ↔ (0 < b ∧ b < 1073741824) ∧ Q (.d (.int (a / b))) m := by
  unfold fdivO; rw [intO_wp, decide_eq_true_eq]
theorem o1_shr : wpO (shrO (.d (.int a)) (.d (.int b)) m) Q ↔ 0 ≤ b ∧ Q (.d (.int (a / 2 ^ b.toNat))) m := by
  unfold shrO; rw [intO_wp, decide_eq_true_eq]
theorem o1_pow : wpO (powO (.d (.int a)) (.d (.int b)) m) Q ↔ (0 ≤ b ∧ b ≤ 1000000 ∧ a.natAbs < 2 ^ 64) ∧ Q (.d (.int (a ^ b.toNat))) m := by
  unfold powO; rw [intO_wp, decide_eq_true_eq]
theorem o1_mul : wpO (mulO (.d (.int a)) (.d (.int b)) m) Q ↔ (small64 a || small64 b) = true ∧ Q (.d (.int (a * b))) m := by
  unfold mulO
  by_cases h : (small64 a || small64 b) = true
  · simp only [if_pos h]; exact ⟨fun q => ⟨h, q⟩, fun q => q.2⟩
  · simp only [if_neg h]; exact ⟨fun q => q.elim, fun q => (h q.1).elim⟩
theorem o1_eqi : wpO (eqO (.d (.int a)) (.d (.int b)) m) Q ↔ Q (.d (.bool (decide (a = b)))) m := by
  show Q (.d (.bool (PyData.eqv (.int a) (.int b)))) m ↔ _
  have e : PyData.eqv (.int a) (.int b) = decide (a = b) := by unfold PyData.eqv; rfl
  rw [e]
theorem o1_int : wpO (intO1 [.d (.int a)] m) Q ↔ Q (.d (.int a)) m := Iff.rfl
theorem o1_abs : wpO (absO [.d (.int a)] m) Q ↔ Q (.d (.int (if a < 0 then -a else a))) m := Iff.rfl
theorem o1_lst : wpO (lstO xs m) Q ↔ xs.length ≤ LIM ∧ Q (.ref m.cells.length) (m.push (.lst xs)) := by
  unfold lstO
  by_cases h : xs.length ≤ LIM
  · rw [if_pos h]; exact ⟨fun q => ⟨h, q⟩, fun q => q.2⟩
  · rw [if_neg h]; exact ⟨fun q => q.elim, fun q => (h q.1).elim⟩
theorem o1_tup : wpO (tupO xs m) Q ↔ xs.length ≤ LIM ∧ Q (mkTup xs) m := by
  unfold tupO
  by_cases h : xs.length ≤ LIM
  · rw [if_pos h]; exact ⟨fun q => ⟨h, q⟩, fun q => q.2⟩
  · rw [if_neg h]; exact ⟨fun q => q.elim, fun q => (h q.1).elim⟩
theorem s_ref (h : Has m n (.lst xs)) : seqOf m (.ref n) = some xs := by
  show (match m.cells[n]? with | some (.lst xs) => some xs | _ => none) = some xs
  rw [show m.cells[n]? = some (.lst xs) from h]
theorem o1_len (h : Has m n (.lst xs)) : wpO (lenO [.ref n] m) Q ↔ Q (.d (.int xs.length)) m := by
  unfold lenO
  simp only [show m.cells[n]? = some (.lst xs) from h]
  exact Iff.rfl
theorem o1_lenT {ds : List PyData} : wpO (lenO [.d (.tuple ds)] m) Q ↔ Q (.d (.int ds.length)) m := by
  show Q (.d (.int (ds.map Wd.d).length)) m ↔ _
  rw [List.length_map]
theorem o1_lenW : wpO (lenO [.tup xs] m) Q ↔ Q (.d (.int xs.length)) m := Iff.rfl
theorem o1_lenR : wpO (lenO [.rol xs] m) Q ↔ Q (.d (.int xs.length)) m := Iff.rfl
theorem o1_lenS {x : Str} : wpO (lenO [.d (.str x)] m) Q ↔ x.length ≤ LIM ∧ Q (.d (.int x.length)) m := by
  unfold lenO
  by_cases h : x.length ≤ LIM
  · simp only [if_pos h]; exact ⟨fun q => ⟨h, q⟩, fun q => q.2⟩
  · simp only [if_neg h]; exact ⟨fun q => q.elim, fun q => (h q.1).elim⟩
theorem ix_of {x w : Wd} (hs : seqOf m x = some xs) (h : atI xs a = some w) : wpO (ixO x (.d (.int a)) m) Q ↔ Q w m := by
  unfold ixO
  split
  · rename_i z i e1 e2
    cases hs
  · rename_i x' i e1 e2
    cases e2
    simp only [hs, h]
    exact Iff.rfl
  · rename_i h1 h2
    exact (h1 a rfl).elim
theorem o1_ix {w : Wd} (hm : Has m n (.lst xs)) (h : atI xs a = some w) : wpO (ixO (.ref n) (.d (.int a)) m) Q ↔ Q w m := ix_of (s_ref hm) h
theorem at_0 {α : Type} {x : α} {r : List α} : atI (x :: r) 0 = some x := by
  unfold atI ixN; simp
theorem at_nat {α : Type} {r : List α} {k : Nat} (h : k < r.length) : atI r (k : Int) = r[k]? := by
  unfold atI ixN
  rw [if_pos (by omega), if_pos (by omega)]
  simp
theorem at_1 {α : Type} {x y : α} {r : List α} : atI (x :: y :: r) 1 = some y := at_nat (k := 1) (by simp)
theorem at_2 {α : Type} {x y z : α} {r : List α} : atI (x :: y :: z :: r) 2 = some z := at_nat (k := 2) (by simp)
theorem at_3 {α : Type} {x y z u : α} {r : List α} : atI (x :: y :: z :: u :: r) 3 = some u := at_nat (k := 3) (by simp)
theorem at_4 {α : Type} {x y z u v : α} {r : List α} : atI (x :: y :: z :: u :: v :: r) 4 = some v := at_nat (k := 4) (by simp)
theorem set_of {v : Wd} {k : Nat} (h : Has m n (.lst xs)) (hk : ixN xs.length a = some k) : setO (.ref n) (.d (.int a)) v m = some (m.put n (.lst (xs.set k v)) (v.lt 0)) := by
  show (match m.cells[n]? with | some (.lst xs) => (match ixN xs.length a with | some j => some (m.put n (.lst (xs.set j v)) (v.lt 0)) | none => none) | _ => none) = _
  rw [show m.cells[n]? = some (.lst xs) from h]
  simp only [hk]
theorem ixL_of {w : Wd} (h : Has m n (.lst xs)) (h0 : 0 ≤ a) (hw : xs[a.toNat]? = some w) : ixLO (.ref n) (.d (.int a)) m = some w := by
  show (match m.cells[n]? with | some (.lst xs) => if 0 ≤ a then xs[a.toNat]? else none | _ => none) = _
  rw [show m.cells[n]? = some (.lst xs) from h]
  simp only [if_pos h0, hw]
theorem o1_sl (h : Has m n (.lst xs)) {lo hi : Option Int} : wpO (slO (.ref n) lo hi m) Q ↔ Q (.ref m.cells.length) (m.push (.lst (cutW xs lo hi))) := by
  unfold slO
  simp only [show m.cells[n]? = some (.lst xs) from h]
  exact Iff.rfl
theorem o1_slR {lo hi : Option Int} : wpO (slO (.rol xs) lo hi m) Q ↔ Q (.ref m.cells.length) (m.push (.lst (cutW xs lo hi))) := Iff.rfl
theorem o1_cat {k : Nat} (h : Has m n (.lst xs)) (h' : Has m k (.lst ys)) (hl : xs.length + ys.length ≤ LIM) : wpO (addO (.ref n) (.ref k) m) Q ↔ Q (.ref m.cells.length) (m.push (.lst (xs ++ ys))) := by
  unfold addO
  simp only [show m.cells[n]? = some (.lst xs) from h, show m.cells[k]? = some (.lst ys) from h', if_pos hl]
  exact Iff.rfl
end
end DL
set_option Elab.async false
set_option linter.all false
set_option maxRecDepth 100000
set_option maxHeartbeats 2000000
namespace DL
open PySem PySem.Spec PyProof.Rows L2
/-! ### what a value reads -/
mutual
def okD : PyData → Bool
  | .none => true | .bool _ => true | .int _ => true | .str _ => true
  | .tuple ds => okDs ds
  | _ => false
def okDs : List PyData → Bool
  | [] => true
  | x :: r => okD x && okDs r
end
mutual
def psz : PyData → Nat
  | .tuple ds => pszs ds + 1
  | .list ds => pszs ds + 1
  | _ => 1
def pszs : List PyData → Nat
  | [] => 0
  | x :: r => psz x + pszs r
end
mutual
inductive Rd (m : Mm) : Wd → PyData → Prop
  | d {x : PyData} : okD x = true → Rd m (.d x) x
  | tup {ws : List Wd} {ds : List PyData} : Rds m ws ds → Rd m (.tup ws) (.tuple ds)
  | ref {n : Nat} {ws : List Wd} {ds : List PyData} : Has m n (.lst ws) → Rds m ws ds → Rd m (.ref n) (.list ds)
  | rol {ws : List Wd} {ds : List PyData} : Rds m ws ds → Rd m (.rol ws) (.list ds)
inductive Rds (m : Mm) : List Wd → List PyData → Prop
  | nil : Rds m [] []
  | cons {w : Wd} {ws : List Wd} {x : PyData} {xs : List PyData} : Rd m w x → Rds m ws xs → Rds m (w :: ws) (x :: xs)
end
section
variable {m m' : Mm}
mutual
theorem Rd.fr (f : Fr [] m m') : ∀ {w : Wd} {x : PyData}, Rd m w x → Rd m' w x
  | _, _, .d h => .d h
  | _, _, .tup h => .tup (Rds.fr f h)
  | _, _, .ref h hs => .ref (f.has h) (Rds.fr f hs)
  | _, _, .rol h => .rol (Rds.fr f h)
theorem Rds.fr (f : Fr [] m m') : ∀ {w : List Wd} {x : List PyData}, Rds m w x → Rds m' w x
  | _, _, .nil => .nil
  | _, _, .cons h hs => .cons (Rd.fr f h) (Rds.fr f hs)
end
theorem Rds.length : ∀ {ws : List Wd} {ds : List PyData}, Rds m ws ds → ws.length = ds.length
  | _, _, .nil => rfl
  | _, _, .cons _ h => congrArg (· + 1) (Rds.length h)
theorem rds_d : ∀ {ds : List PyData}, okDs ds = true → Rds m (ds.map .d) ds
  | [], _ => .nil
  | x :: r, h => by
    have h' : (okD x && okDs r) = true := h
    rw [Bool.and_eq_true] at h'
    exact .cons (.d h'.1) (rds_d h'.2)
theorem rds_of_d : ∀ (ds : List PyData) {es : List PyData}, Rds m (ds.map .d) es → es = ds ∧ okDs ds = true := by
  intro ds
  induction ds with
  | nil => intro es h; cases h; exact ⟨rfl, rfl⟩
  | cons x r ih =>
    intro es h
    cases h with
    | cons h hs =>
      obtain ⟨e, h2⟩ := ih hs
      cases h with
      | d h => exact ⟨by rw [e], by show (okD x && okDs r) = true; rw [h, h2]; rfl⟩
theorem rd_tup {ws : List Wd} {ds : List PyData} (h : Rds m ws ds) : Rd m (mkTup ws) (.tuple ds) := by
  unfold mkTup
  cases q : allD ws with
  | none => exact .tup h
  | some es =>
    rw [allD_eq q] at h
    obtain ⟨e, h2⟩ := rds_of_d _ h
    subst e
    exact .d h2
theorem tupOf_mk (ws : List Wd) : tupOf (mkTup ws) = some ws := by
  unfold mkTup
  cases q : allD ws with
  | none => rfl
  | some es => rw [allD_eq q]; rfl
theorem psz_pos (x : PyData) : 1 ≤ psz x := by cases x <;> simp [psz]
theorem pszs_append : ∀ xs ys : List PyData, pszs (xs ++ ys) = pszs xs + pszs ys
  | [], ys => by simp [pszs]
  | x :: xs, ys => by simp [pszs, pszs_append xs ys]; omega
theorem pszs_len : ∀ xs : List PyData, xs.length ≤ pszs xs
  | [] => Nat.le_refl _
  | x :: xs => by have := pszs_len xs; have := psz_pos x; simp [pszs]; omega
def tyD : PyData → String
  | .none => "NoneType" | .bool _ => "bool" | .int _ => "int" | .str _ => "str" | .tuple _ => "tuple" | .list _ => "list" | .dict _ => "dict"
theorem rd_ty {w : Wd} {x : PyData} (h : Rd m w x) : tyName m w = some (tyD x) := by
  cases h with
  | d h =>
    cases x with
    | list _ => cases h
    | dict _ => cases h
    | _ => rfl
  | tup _ => rfl
  | @ref n ws ds h hs =>
    show (match m.cells[n]? with | some (.lst _) => some "list" | some (.dct _) => some "dict" | _ => none) = _
    rw [show m.cells[n]? = some (.lst ws) from h]; rfl
  | rol _ => rfl
/-- a sequence's items -/
theorem rd_seq {w : Wd} {ds : List PyData} (h : Rd m w (.tuple ds) ∨ Rd m w (.list ds)) : ∃ ws, seqOf m w = some ws ∧ Rds m ws ds := by
  rcases h with h | h
  · cases h with
    | d h => exact ⟨_, rfl, rds_d h⟩
    | tup h => exact ⟨_, rfl, h⟩
  · cases h with
    | d h => cases h
    | ref h hs => exact ⟨_, s_ref h, hs⟩
    | rol h => exact ⟨_, rfl, h⟩
theorem rd_lw {w : Wd} {x : PyData} (h : Rd m w x) (hs : tyD x = "tuple" ∨ tyD x = "list") : isLW w = decide (tyD x = "list") := by
  cases h with
  | d h =>
    cases x with
    | tuple _ => rfl
    | list _ => cases h
    | dict _ => cases h
    | none => simp [tyD] at hs
    | bool _ => simp [tyD] at hs
    | int _ => simp [tyD] at hs
    | str _ => simp [tyD] at hs
  | tup _ => rfl
  | ref _ _ => rfl
  | rol _ => rfl
end
section
variable {m : Mm} {Q : Wd → Mm → Prop}
theorem o1_lens {w : Wd} {xs : List Wd} (h : seqOf m w = some xs) : wpO (lenO [w] m) Q ↔ Q (.d (.int xs.length)) m := by
  cases w with
  | d x =>
    cases x with
    | tuple ds => cases h; exact Iff.rfl
    | _ => cases h
  | ref n =>
    have e : (match m.cells[n]? with | some (.lst xs) => some xs | _ => none) = some xs := h
    cases q : m.cells[n]? with
    | none => rw [q] at e; cases e
    | some c =>
      rw [q] at e
      cases c with
      | lst ys => cases e; exact o1_len q
      | dct _ => cases e
      | ins _ _ => cases e
      | tab _ _ => cases e
  | tup xs => cases h; exact Iff.rfl
  | rol xs => cases h; exact Iff.rfl
  | v x => cases h
theorem o1_neb {a b : Bool} : wpO (neO (.d (.bool a)) (.d (.bool b)) m) Q ↔ Q (.d (.bool (!(a == b)))) m := Iff.rfl
theorem o1_nei {a b : Int} : wpO (neO (.d (.int a)) (.d (.int b)) m) Q ↔ Q (.d (.bool (!(decide (a = b))))) m := by
  show Q (.d (.bool (!PyData.eqv (.int a) (.int b)))) m ↔ _
  have e : PyData.eqv (.int a) (.int b) = decide (a = b) := by unfold PyData.eqv; rfl
  rw [e]
theorem o1_nes {x : PyData} (h : x = .none ∨ (∃ b, x = .bool b) ∨ (∃ i, x = .int i) ∨ ∃ s, x = .str s) : wpO (neO (.d x) (.d x) m) Q ↔ Q (.d (.bool false)) m := by
  rcases h with rfl | ⟨b, rfl⟩ | ⟨i, rfl⟩ | ⟨s, rfl⟩
  · exact Iff.rfl
  · rw [o1_neb]; simp
  · rw [o1_nei]; simp
  · show Q (.d (.bool (!PyData.eqv (.str s) (.str s)))) m ↔ _
    have e : PyData.eqv (.str s) (.str s) = true := by unfold PyData.eqv; simp
    rw [e]; rfl
theorem seqOf_fr {m' : Mm} {S : List Nat} {w : Wd} {xs : List Wd} (f : Fr S m m') (h : seqOf m w = some xs) (hn : ∀ n, w = .ref n → n ∉ S) : seqOf m' w = some xs := by
  cases w with
  | ref n =>
    have e : (match m.cells[n]? with | some (.lst xs) => some xs | _ => none) = some xs := h
    cases q : m.cells[n]? with
    | none => rw [q] at e; cases e
    | some c =>
      rw [q] at e
      cases c with
      | lst ys => cases e; exact s_ref (f.has q (hn n rfl))
      | dct _ => cases e
      | ins _ _ => cases e
      | tab _ _ => cases e
  | d x => cases x <;> exact h
  | _ => exact h
theorem o1_lz {a b : Wd} {xs ys : List Wd} (hk : isLW a = isLW b) (ha : seqOf m a = some xs) (hb : seqOf m b = some ys) : wpO (lzO [a, b] m) Q ↔ Q (.ref m.cells.length) (m.push (.lst ((xs.zip ys).map fun p => mkTup [p.1, p.2]))) := by
  unfold lzO
  simp only [hk, ha, hb, beq_self_eq_true, if_true]
  exact Iff.rfl
theorem o1_ext {n k : Nat} {xs ys : List Wd} (h : Has m n (.lst xs)) (h' : Has m k (.lst ys)) (hl : xs.length + ys.length ≤ LIM) : wpO (extO (.ref n) [.ref k] m) Q ↔ Q (.d .none) (m.put n (.lst (xs ++ ys)) (Wd.ltAll 0 ys)) := by
  unfold extO
  simp only [show m.cells[n]? = some (.lst xs) from h, show m.cells[k]? = some (.lst ys) from h', if_pos hl]
  exact Iff.rfl
theorem o1_app {n : Nat} {xs : List Wd} {w : Wd} (h : Has m n (.lst xs)) (hl : xs.length < LIM) : wpO (appO (.ref n) [w] m) Q ↔ Q (.d .none) (m.put n (.lst (xs ++ [w])) (w.lt 0)) := by
  unfold appO
  simp only [show m.cells[n]? = some (.lst xs) from h, if_pos hl]
  exact Iff.rfl
end
end DL
set_option Elab.async false
set_option linter.all false
set_option maxRecDepth 100000
set_option maxHeartbeats 2000000
namespace DL
open PySem PySem.Spec PyProof.Rows L2
section
variable {env : DL.Env} {m : Mm} {Q : Wd → Mm → Prop}
theorem w_iter {f : Em Wd} {Q : List Wd × Gd → Mm → Prop} (h : wpR (f env m) fun w m1 => (∃ xs, seqOf m1 w = some xs ∧ ∀ gd, (∀ m', Fr [] m1 m' → gdOk gd m' = true) → Q (xs, gd) m1) ∨ ∃ x, w = .d (.str x) ∧ Q (x.cps.toList.map (fun c => .d (.str ⟨#[c]⟩)), []) m1) : wpR (iVal f env m) Q := by
  rw [w_val]
  refine wpR_mono h fun w m1 h => ?_
  rcases h with ⟨xs, hs, hq⟩ | ⟨x, rfl, hq⟩
  · cases w with
    | d x =>
      cases x with
      | tuple ds => cases hs; exact hq [] fun m' _ => gdOk_nil
      | _ => cases hs
    | ref n =>
      have e : (match m1.cells[n]? with | some (.lst xs) => some xs | _ => none) = some xs := hs
      have key : Has m1 n (.lst xs) := by
        unfold Has
        cases q : m1.cells[n]? with
        | none => rw [q] at e; cases e
        | some c =>
          rw [q] at e
          cases c with
          | lst ys => cases e; rfl
          | dct _ => cases e
          | ins _ _ => cases e
          | tab _ _ => cases e
      show wpR (match m1.cells[n]? with | some (.lst xs) => Rs.ok (xs, [(n, Cell.lst xs)]) m1 | _ => .stuck) Q
      rw [show m1.cells[n]? = some (.lst xs) from key]
      exact hq [(n, .lst xs)] fun m' f => gdOk_one (f.has key)
    | tup ys => cases hs; exact hq [] fun m' _ => gdOk_nil
    | rol ys => cases hs; exact hq [] fun m' _ => gdOk_nil
    | v _ => cases hs
  · exact hq
/-- a comprehension that only looks -/
theorem w_lcm {t : Tg} {c : Em Bool} {f : Em Wd} {gd : Gd} {e0 : DL.Env} {xs : List Wd} {R : List Wd → Mm → Prop} (p : Wd → Bool) (g : Wd → Wd) (hlen : xs.length ≤ LIM) (hgd : ∀ m', Fr [] m m' → gdOk gd m' = true)
    (hs : ∀ w ∈ xs, ∀ m', Fr [] m m' → ∃ e, t.put w e0 = some e ∧ wpR (c e m') fun b m2 => Fr [] m m2 ∧ b = p w ∧ (p w = true → wpR (f e m2) fun x m3 => Fr [] m m3 ∧ x = g w)) (hd : ∀ m', Fr [] m m' → R ((xs.filter p).map g) m') : wpR (lcL t c f gd e0 xs [] m) R := by
  refine w_lc0 (fun k acc mm => Fr [] m mm ∧ acc = ((xs.take k).filter p).map g) ⟨.refl, rfl⟩ (fun k acc mm hI => hgd mm hI.1) (fun k acc mm w hw hI => ?_) fun acc mm hI => ?_
  · obtain ⟨fI, rfl⟩ := hI
    obtain ⟨e, he, hb⟩ := hs w (List.mem_of_getElem? hw) mm fI
    refine ⟨e, he, wpR_mono hb fun b m2 h => ?_⟩
    obtain ⟨f2, rfl, hf⟩ := h
    have htk : xs.take (k + 1) = xs.take k ++ [w] := by rw [List.take_succ, hw]; rfl
    have hlt : k < xs.length := (List.getElem?_eq_some_iff.mp hw).1
    cases q : p w with
    | false =>
      rw [if_neg (by simp)]
      exact ⟨f2, by rw [htk, List.filter_append]; simp [q]⟩
    | true =>
      rw [if_pos rfl]
      refine wpR_mono (hf q) fun x m3 h3 => ?_
      obtain ⟨f3, rfl⟩ := h3
      refine ⟨?_, f3, by rw [htk, List.filter_append]; simp [q]⟩
      rw [List.length_map]
      have h1 := List.length_filter_le p (xs.take k)
      rw [List.length_take] at h1
      omega
  · obtain ⟨fI, rfl⟩ := hI
    rw [List.take_length]
    exact hd mm fI
theorem o1_all {n : Nat} {bs : List Bool} (h : Has m n (.lst (bs.map fun b => .d (.bool b)))) : wpO (allO [.ref n] m) Q ↔ Q (.d (.bool (bs.all id))) m := by
  have hb : ∀ bs : List Bool, boolsW (bs.map fun b => Wd.d (.bool b)) = some bs := by
    intro bs
    induction bs with
    | nil => rfl
    | cons b r ih => show (boolsW (r.map fun b => Wd.d (.bool b))).map (b :: ·) = _; rw [ih]; rfl
  unfold allO
  simp only [show m.cells[n]? = some (.lst (bs.map fun b => .d (.bool b))) from h, hb]
  exact Iff.rfl
theorem o1_list {w : Wd} {xs : List Wd} (h : seqOf m w = some xs) : wpO (listO [w] m) Q ↔ Q (.ref m.cells.length) (m.push (.lst xs)) := by
  unfold listO; simp only [h]; exact Iff.rfl
theorem o1_tuple {w : Wd} {xs : List Wd} (h : seqOf m w = some xs) : wpO (tupleO [w] m) Q ↔ Q (mkTup xs) m := by
  unfold tupleO; simp only [h]; exact Iff.rfl
theorem strsW_map : ∀ ss : List Str, strsW (ss.map fun x => Wd.d (.str x)) = some ss
  | [] => rfl
  | s :: r => by show (strsW (r.map fun x => Wd.d (.str x))).map (s :: ·) = _; rw [strsW_map r]; rfl
theorem o1_sortS {w : Wd} {ss : List Str} (h : seqOf m w = some (ss.map fun x => .d (.str x))) : wpO (sortO [w] m) Q ↔ Q (.ref m.cells.length) (m.push (.lst ((ss.mergeSort leS).map fun x => .d (.str x)))) := by
  unfold sortO; simp only [h, strsW_map]; exact Iff.rfl
/-- in: a flat value in a sequence of flat ones -/
theorem o1_in {a : PyData} {w : Wd} {ds : List PyData} (ha : flatD a = true) (h : seqOf m w = some (ds.map .d)) (hf : ds.all flatD = true) : wpO (inO (.d a) w m) Q ↔ Q (.d (.bool (ds.any fun z => PyData.eqv z a))) m := by
  have hx : inB (.d a) w m = some (ds.any fun z => PyData.eqv z a) := by
    have key : (match seqOf m w with
      | some ys => if (flatW (.d a) && ys.all flatW) = true then some (ys.any fun z => eqvW z (.d a)) else none
      | none => none) = some (ds.any fun z => PyData.eqv z a) := by
      rw [h]
      have e : (flatW (.d a) && (ds.map Wd.d).all flatW) = true := by
        rw [Bool.and_eq_true]
        refine ⟨ha, ?_⟩
        rw [List.all_map]; exact hf
      simp only [if_pos e, List.any_map]
      rfl
    unfold inB
    split
    · rename_i z y e1 e2
      cases h
    · exact key
  unfold inO
  rw [hx]
  exact Iff.rfl
theorem o1_ni {a : PyData} {w : Wd} {ds : List PyData} (ha : flatD a = true) (h : seqOf m w = some (ds.map .d)) (hf : ds.all flatD = true) : wpO (niO (.d a) w m) Q ↔ Q (.d (.bool (!(ds.any fun z => PyData.eqv z a)))) m := by
  have h2 := (o1_in (m := m) (Q := fun w m' => w = .d (.bool (ds.any fun z => PyData.eqv z a))) ha h hf).mpr rfl
  unfold inO at h2
  unfold niO
  cases q : inB (.d a) w m with
  | none => rw [q] at h2; exact h2.elim
  | some b =>
    rw [q] at h2
    have h3 : Wd.d (.bool b) = .d (.bool (ds.any fun z => PyData.eqv z a)) := h2
    cases h3
    exact Iff.rfl
theorem o1_inS {c : Nat} {z : Str} : wpO (inO (.d (.str ⟨#[c]⟩)) (.d (.str z)) m) Q ↔ Q (.d (.bool (decide (c ∈ z.cps.toList)))) m := Iff.rfl
theorem o1_niS {c : Nat} {z : Str} : wpO (niO (.d (.str ⟨#[c]⟩)) (.d (.str z)) m) Q ↔ Q (.d (.bool (!decide (c ∈ z.cps.toList)))) m := Iff.rfl
theorem toP_mono {m : Mm} : ∀ (k : Nat) {w : Wd} {x : PyData}, toP m k w = some x → toP m (k + 1) w = some x := by
  intro k
  induction k with
  | zero =>
    intro w x h
    cases w with
    | d y => exact h
    | _ => cases h
  | succ k ih =>
    have all : ∀ (ws : List Wd) (ds : List PyData), seqO (ws.map (toP m k)) = some ds → seqO (ws.map (toP m (k + 1))) = some ds := by
      intro ws
      induction ws with
      | nil => intro ds h; exact h
      | cons w r ihr =>
        intro ds h
        rw [List.map_cons] at h ⊢
        cases q : toP m k w with
        | none => rw [q] at h; cases h
        | some y =>
          rw [q] at h
          rw [ih q]
          cases q2 : seqO (r.map (toP m k)) with
          | none => simp [seqO, q2] at h
          | some es =>
            simp only [seqO, q2] at h
            simp only [seqO, ihr es q2]
            exact h
    intro w x h
    cases w with
    | d y => exact h
    | ref n =>
      simp only [toP] at h ⊢
      cases q : m.cells[n]? with
      | none => rw [q] at h; cases h
      | some c =>
        rw [q] at h
        cases c with
        | lst xs =>
          simp only at h ⊢
          obtain ⟨ds, h1, h2⟩ := Option.map_eq_some_iff.mp h
          rw [all xs ds h1, ← h2]; rfl
        | dct _ => cases h
        | ins _ _ => cases h
        | tab _ _ => cases h
    | tup xs =>
      simp only [toP] at h ⊢
      obtain ⟨ds, h1, h2⟩ := Option.map_eq_some_iff.mp h
      rw [all xs ds h1, ← h2]; rfl
    | rol xs =>
      simp only [toP] at h ⊢
      obtain ⟨ds, h1, h2⟩ := Option.map_eq_some_iff.mp h
      rw [all xs ds h1, ← h2]; rfl
    | v _ => cases h
theorem seqO_d (k : Nat) : ∀ ds : List PyData, seqO ((ds.map Wd.d).map (toP m k)) = some ds
  | [] => rfl
  | x :: r => by
    have e : toP m k (.d x) = some x := by cases k <;> rfl
    rw [List.map_cons, List.map_cons, e]
    simp only [seqO, seqO_d k r]
    rfl
/-- what flat sequences read at 64 -/
theorem toP_d {k : Nat} {x : PyData} : toP m k (.d x) = some x := by cases k <;> rfl
theorem toP_lst {k n : Nat} {ds : List PyData} (h : Has m n (.lst (ds.map .d))) : toP m (k + 1) (.ref n) = some (.list ds) := by
  simp only [toP, show m.cells[n]? = some (.lst (ds.map .d)) from h, seqO_d]; rfl
theorem o1_eqW {a b : Wd} {x y : PyData} (ha : toP m 64 a = some x) (hb : toP m 64 b = some y) (hs : (scalD x y || (SeqAt.shaped x && SeqAt.shaped y)) = true) : wpO (eqO a b m) Q ↔ Q (.d (.bool (PyData.eqv x y))) m := by
  have e : eqB a b m = some (PyData.eqv x y) := by unfold eqB; simp only [ha, hb, if_pos hs]
  unfold eqO; rw [e]; exact Iff.rfl
theorem o1_neW {a b : Wd} {x y : PyData} (ha : toP m 64 a = some x) (hb : toP m 64 b = some y) (hs : (scalD x y || (SeqAt.shaped x && SeqAt.shaped y)) = true) : wpO (neO a b m) Q ↔ Q (.d (.bool (!PyData.eqv x y))) m := by
  have e : eqB a b m = some (PyData.eqv x y) := by unfold eqB; simp only [ha, hb, if_pos hs]
  unfold neO; rw [e]; exact Iff.rfl
end
theorem depthAll_ones : ∀ n : Nat, PyData.depthAll (List.replicate n (.int 1)) = 0
  | 0 => rfl
  | n + 1 => by show max (PyData.depth (.int 1)) (PyData.depthAll (List.replicate n (.int 1))) = 0; rw [depthAll_ones n]; rfl
theorem canLay_ones : ∀ n : Nat, PyData.canLayAll0 (List.replicate n (.int 1)) = true
  | 0 => rfl
  | n + 1 => by show (PyData.canLay0 (.int 1) && PyData.canLayAll0 (List.replicate n (.int 1))) = true; rw [canLay_ones n]; rfl
theorem shaped_ones {α : Type} (l : List α) (y : List PyData := []) (hy : y = [] := by rfl) : (scalD (.list (l.map fun _ => PyData.int 1)) (.list y) || (SeqAt.shaped (.list (l.map fun _ => PyData.int 1)) && SeqAt.shaped (.list y))) = true := by
  subst hy
  have e : (l.map fun _ => PyData.int 1) = List.replicate l.length (.int 1) := by rw [List.map_const']
  have h1 : SeqAt.shaped (.list (l.map fun _ => PyData.int 1)) = true := by
    unfold SeqAt.shaped
    rw [e, Bool.and_eq_true]
    exact ⟨canLay_ones _, by rw [decide_eq_true_eq]; show PyData.depthAll (List.replicate l.length (.int 1)) + 1 ≤ 64; rw [depthAll_ones]; omega⟩
  rw [Bool.or_eq_true, Bool.and_eq_true]
  exact .inr ⟨h1, by decide +kernel⟩
theorem eqv_nil (l : List PyData) : PyData.eqv (.list l) (.list []) = l.isEmpty := by
  cases l <;> rfl
theorem o1_eqOnes {α : Type} {m : Mm} {Q : Wd → Mm → Prop} {n k : Nat} {l : List α} (h : Has m n (.lst (l.map fun _ => .d (.int 1)))) (h' : Has m k (.lst [])) : wpO (eqO (.ref n) (.ref k) m) Q ↔ Q (.d (.bool l.isEmpty)) m := by
  have h1 : toP m 64 (.ref n) = some (.list (l.map fun _ => PyData.int 1)) := toP_lst (by rw [List.map_map]; exact h)
  have h2 : toP m 64 (.ref k) = some (.list []) := toP_lst (ds := []) h'
  rw [o1_eqW h1 h2 (shaped_ones l _), eqv_nil]
  simp
theorem filt_not {α : Type} (p : α → Bool) : ∀ l : List α, (l.filter fun x => !p x).isEmpty = l.all p
  | [] => rfl
  | x :: r => by
    cases q : p x with
    | true => simp [q, List.filter_cons]; exact (filt_not p r).symm ▸ (by simp)
    | false => simp [q, List.filter_cons]
section
variable {m : Mm} {Q : Wd → Mm → Prop}
theorem o1_slT {w : Wd} {xs : List Wd} {lo hi : Option Int} (h : tupOf w = some xs) : wpO (slO w lo hi m) Q ↔ Q (mkTup (cutW xs lo hi)) m := by
  cases w with
  | d x =>
    cases x with
    | tuple ds => unfold slO; simp only [h]; exact Iff.rfl
    | _ => cases h
  | tup ys => unfold slO; simp only [h]; exact Iff.rfl
  | _ => cases h
theorem cut_to (xs : List Wd) (k : Nat) : cutW xs none (some (k : Int)) = xs.take k := by
  unfold cutW
  rw [show HT.sIx xs.length 0 none = 0 from rfl, HT.sIx_nat, List.drop_zero, Nat.sub_zero]
  by_cases h : k ≤ xs.length
  · rw [Nat.min_eq_left h]
  · rw [Nat.min_eq_right (by omega), List.take_length, List.take_of_length_le (by omega)]
theorem tupOf_seq {w : Wd} {xs : List Wd} (h : tupOf w = some xs) : seqOf m w = some xs := by
  cases w with
  | d x =>
    cases x with
    | tuple ds => exact h
    | _ => cases h
  | tup ys => exact h
  | _ => cases h
theorem rd_tupOf {w : Wd} {ds : List PyData} (h : Rd m w (.tuple ds)) : ∃ ws, tupOf w = some ws ∧ Rds m ws ds := by
  cases h with
  | d h => exact ⟨_, rfl, rds_d h⟩
  | tup h => exact ⟨_, rfl, h⟩
theorem rds_flat : ∀ {ws : List Wd} {ds : List PyData}, Rds m ws ds → ds.all flatD = true → ws = ds.map .d
  | _, _, .nil, _ => rfl
  | _, _, .cons h hs, hf => by
    rw [List.all_cons, Bool.and_eq_true] at hf
    rw [rds_flat hs hf.2]
    cases h with
    | d _ => rfl
    | tup _ => cases hf.1
    | ref _ _ => cases hf.1
    | rol _ => cases hf.1
theorem rds_get {ws : List Wd} {ds : List PyData} {k : Nat} {w : Wd} (h : Rds m ws ds) (e : ws[k]? = some w) : ∃ x, ds[k]? = some x ∧ Rd m w x := by
  induction k generalizing ws ds with
  | zero =>
    cases h with
    | nil => simp at e
    | cons h hs => simp at e; subst e; exact ⟨_, rfl, h⟩
  | succ k ih =>
    cases h with
    | nil => simp at e
    | cons h hs =>
      obtain ⟨x, e1, r⟩ := ih hs (by simpa using e)
      exact ⟨x, by simpa using e1, r⟩
end
/-! no two alike -/
theorem nodup_snoc {α : Type} {l : List α} {x : α} : (l ++ [x]).Nodup ↔ l.Nodup ∧ x ∉ l := by
  rw [List.nodup_append]
  constructor
  · exact fun ⟨h1, _, h3⟩ => ⟨h1, fun h => h3 x h x (by simp) rfl⟩
  · exact fun ⟨h1, h2⟩ => ⟨h1, by simp, fun a ha b hb e => h2 (by rw [List.mem_singleton.mp hb] at e; rw [← e]; exact ha)⟩
theorem unlike_nodup {α : Type} [DecidableEq α] : ∀ (l : List α), ((List.range l.length).all fun k => !((l.take k).any fun z => decide (some z = l[k]?))) = decide l.Nodup := by
  intro l
  rw [Bool.eq_iff_iff, List.all_eq_true, decide_eq_true_eq]
  constructor
  · intro h
    refine List.pairwise_iff_getElem.mpr fun i j hi hj hij e => ?_
    have h2 := h j (List.mem_range.mpr hj)
    rw [Bool.not_eq_true', List.any_eq_false] at h2
    refine h2 l[i] ?_ ?_
    · rw [List.mem_take_iff_getElem]
      exact ⟨i, by omega, rfl⟩
    · rw [decide_eq_true_eq, e, List.getElem?_eq_getElem hj]
  · intro h k hk
    have hk' := List.mem_range.mp hk
    rw [Bool.not_eq_true', List.any_eq_false]
    intro z hz e
    rw [decide_eq_true_eq] at e
    rw [List.mem_take_iff_getElem] at hz
    obtain ⟨i, hi, rfl⟩ := hz
    rw [List.getElem?_eq_getElem hk'] at e
    exact List.pairwise_iff_getElem.mp h i k (by omega) hk' (by omega) (Option.some.inj e)
def dd {α : Type} [DecidableEq α] (l : List α) : List α := l.foldl (fun acc s => if s ∈ acc then acc else acc ++ [s]) []
theorem dd_snoc {α : Type} [DecidableEq α] (l : List α) (x : α) : dd (l ++ [x]) = if x ∈ dd l then dd l else dd l ++ [x] := by
  unfold dd; rw [List.foldl_append]; rfl
theorem snoc_ind {α : Type} {P : List α → Prop} (h0 : P []) (h1 : ∀ l x, P l → P (l ++ [x])) (l : List α) : P l := by
  have : ∀ l : List α, P l.reverse := by
    intro l
    induction l with
    | nil => exact h0
    | cons x r ih => rw [List.reverse_cons]; exact h1 _ x ih
  simpa using this l.reverse
theorem mem_dd {α : Type} [DecidableEq α] {y : α} (l : List α) : y ∈ dd l ↔ y ∈ l := by
  refine snoc_ind (P := fun l => y ∈ dd l ↔ y ∈ l) (by simp [dd]) (fun l x ih => ?_) l
  rw [dd_snoc]
  by_cases h : x ∈ dd l
  · rw [if_pos h, ih, List.mem_append, List.mem_singleton]
    constructor
    · exact .inl
    · rintro (q | q)
      · exact q
      · subst q; exact ih.mp h
  · rw [if_neg h, List.mem_append, List.mem_append, ih]
theorem dd_le {α : Type} [DecidableEq α] (l : List α) : (dd l).length ≤ l.length := by
  refine snoc_ind (P := fun l => (dd l).length ≤ l.length) (by simp [dd]) (fun l x ih => ?_) l
  rw [dd_snoc]
  split
  · simp; omega
  · simp; omega
theorem dd_len {α : Type} [DecidableEq α] (l : List α) : (dd l).length = l.length ↔ l.Nodup := by
  refine snoc_ind (P := fun l => (dd l).length = l.length ↔ l.Nodup) (by simp [dd]) (fun l x ih => ?_) l
  rw [dd_snoc, nodup_snoc]
  by_cases h : x ∈ dd l
  · rw [if_pos h]
    have := dd_le l
    constructor
    · intro e; simp at e; omega
    · exact fun q => (q.2 ((mem_dd l).mp h)).elim
  · rw [if_neg h]
    have h' : x ∉ l := fun q => h ((mem_dd l).mpr q)
    simp only [List.length_append, List.length_singleton, Nat.add_right_cancel_iff, ih, h', not_false_eq_true, and_true]
theorem putW_str {v : Wd} (ks : List Str) (s : Str) : putW (ks.map fun s => (PyData.str s, v)) (.inr s) v = (if s ∈ ks then ks else ks ++ [s]).map fun s => (PyData.str s, v) := by
  unfold putW
  have ha : ((ks.map fun s => (PyData.str s, v)).any fun p => decide (keyOf p.1 = some (.inr s))) = decide (s ∈ ks) := by
    rw [List.any_map, Bool.eq_iff_iff, List.any_eq_true, decide_eq_true_eq]
    constructor
    · rintro ⟨y, hy, e⟩
      have e' : keyOf (.str y) = some (.inr s) := of_decide_eq_true e
      cases e'; exact hy
    · exact fun h => ⟨s, h, decide_eq_true rfl⟩
  by_cases h : s ∈ ks
  · rw [if_pos (by rw [ha]; exact decide_eq_true h), if_pos h, List.map_map]
    refine List.map_congr_left fun y _ => ?_
    show (if keyOf (PyData.str y) = some (.inr s) then (PyData.str y, v) else (PyData.str y, v)) = _
    split <;> rfl
  · rw [if_neg (by rw [ha]; simpa using h), if_neg h, List.map_append]
    rfl
theorem dd_take {α : Type} [DecidableEq α] {l : List α} {k : Nat} {x : α} (h : l[k]? = some x) : dd (l.take (k + 1)) = if x ∈ dd (l.take k) then dd (l.take k) else dd (l.take k) ++ [x] := by
  rw [List.take_succ, h]
  exact dd_snoc _ _
/-- a dict of texts, all with one value -/
theorem w_dcS {m : Mm} {t : Tg} {fk fv : Em Wd} {gd : Gd} {e0 : DL.Env} {ss : List Str} {v : Wd} {R : List (PyData × Wd) → Mm → Prop} (hlen : ss.length < LIM) (hgd : ∀ m', Fr [] m m' → gdOk gd m' = true)
    (hs : ∀ s ∈ ss, ∀ m', Fr [] m m' → ∃ e, t.put (.d (.str s)) e0 = some e ∧ wpR (fk e m') fun y m3 => Fr [] m m3 ∧ y = .d (.str s) ∧ wpR (fv e m3) fun u m4 => Fr [] m m4 ∧ u = v) (hd : ∀ m', Fr [] m m' → R ((dd ss).map fun s => (.str s, v)) m') :
    wpR (dcL t (fun _ m => .ok true m) fk fv gd e0 (ss.map fun s => .d (.str s)) [] m) R := by
  refine wpR_mono (w_dcL (fun k acc mm => Fr [] m mm ∧ acc = (dd (ss.take k)).map fun s => (PyData.str s, v)) (ss.map fun s => .d (.str s)) (fun k acc mm hI => hgd mm hI.1) (fun k acc mm w hw hI => ?_) _ 0 [] m (by simp) (by simp) ⟨.refl, rfl⟩) fun acc mm hI => ?_
  · obtain ⟨fI, rfl⟩ := hI
    rw [List.getElem?_map] at hw
    obtain ⟨s, hx, rfl⟩ := Option.map_eq_some_iff.mp hw
    obtain ⟨e, he, hb⟩ := hs s (List.mem_of_getElem? hx) mm fI
    refine ⟨e, he, ?_⟩
    rw [wpR_ok, if_pos rfl]
    refine wpR_mono hb fun y m3 h => ?_
    obtain ⟨f3, rfl, h⟩ := h
    refine wpR_mono h fun u m4 h => ?_
    obtain ⟨f4, rfl⟩ := h
    refine ⟨.inr s, rfl, ?_, f4, ?_⟩
    · rw [List.length_map]
      have h1 := dd_le (ss.take k)
      rw [List.length_take] at h1
      omega
    · rw [putW_str, dd_take hx]
  · obtain ⟨fI, rfl⟩ := hI
    rw [List.length_map, List.take_length]
    exact hd mm fI
theorem o1_lenD {m : Mm} {Q : Wd → Mm → Prop} {n : Nat} {kvs : List (PyData × Wd)} (h : Has m n (.dct kvs)) : wpO (lenO [.ref n] m) Q ↔ Q (.d (.int kvs.length)) m := by
  unfold lenO
  simp only [show m.cells[n]? = some (.dct kvs) from h]
  exact Iff.rfl
/-- a comprehension that only looks, over what is read -/
theorem w_lcd {m : Mm} {t : Tg} {c : Em Bool} {f : Em Wd} {gd : Gd} {e0 : DL.Env} {xs : List Wd} {ds : List PyData} {R : List Wd → Mm → Prop} (hr : Rds m xs ds) (p : PyData → Bool) (g : PyData → PyData) (hlen : ds.length ≤ LIM) (hgd : ∀ m', Fr [] m m' → gdOk gd m' = true)
    (hs : ∀ w x, Rd m w x → x ∈ ds → ∀ m', Fr [] m m' → ∃ e, t.put w e0 = some e ∧ wpR (c e m') fun b m2 => Fr [] m m2 ∧ b = p x ∧ (p x = true → wpR (f e m2) fun y m3 => Fr [] m m3 ∧ y = .d (g x)))
    (hd : ∀ m', Fr [] m m' → R (((ds.filter p).map g).map .d) m') : wpR (lcL t c f gd e0 xs [] m) R := by
  have hxl := hr.length
  refine w_lc0 (fun k acc mm => Fr [] m mm ∧ acc = (((ds.take k).filter p).map g).map .d) ⟨.refl, rfl⟩ (fun k acc mm hI => hgd mm hI.1) (fun k acc mm w hw hI => ?_) fun acc mm hI => ?_
  · obtain ⟨fI, rfl⟩ := hI
    obtain ⟨x, hx, rx⟩ := rds_get hr hw
    obtain ⟨e, he, hb⟩ := hs w x rx (List.mem_of_getElem? hx) mm fI
    refine ⟨e, he, wpR_mono hb fun b m2 h => ?_⟩
    obtain ⟨f2, rfl, hf⟩ := h
    have htk : ds.take (k + 1) = ds.take k ++ [x] := by rw [List.take_succ, hx]; rfl
    have hlt : k < ds.length := (List.getElem?_eq_some_iff.mp hx).1
    cases q : p x with
    | false =>
      rw [if_neg (by simp)]
      exact ⟨f2, by rw [htk, List.filter_append]; simp [q]⟩
    | true =>
      rw [if_pos rfl]
      refine wpR_mono (hf q) fun y m3 h3 => ?_
      obtain ⟨f3, rfl⟩ := h3
      refine ⟨?_, f3, by rw [htk, List.filter_append]; simp [q]⟩
      rw [List.length_map, List.length_map]
      have h1 := List.length_filter_le p (ds.take k)
      rw [List.length_take] at h1
      omega
  · obtain ⟨fI, rfl⟩ := hI
    rw [hxl, List.take_length]
    exact hd mm fI
theorem mem_all {α : Type} {p : α → Bool} {l : List α} {x : α} (h : l.all p = true) (hx : x ∈ l) : p x = true := List.all_eq_true.mp h x hx
theorem o1_catT {m : Mm} {Q : Wd → Mm → Prop} {a b : Wd} {xs ys : List Wd} (h : tupOf a = some xs) (h' : tupOf b = some ys) (hl : xs.length + ys.length ≤ LIM) : wpO (addO a b m) Q ↔ Q (mkTup (xs ++ ys)) m := by
  cases a with
  | d x =>
    cases x with
    | tuple ds =>
      cases b with
      | d y =>
        cases y with
        | tuple es => unfold addO; simp only [h, h', if_pos hl]; exact Iff.rfl
        | _ => cases h'
      | tup zs => unfold addO; simp only [h, h', if_pos hl]; exact Iff.rfl
      | _ => cases h'
    | _ => cases h
  | tup zs =>
    cases b with
    | d y =>
      cases y with
      | tuple es => unfold addO; simp only [h, h', if_pos hl]; exact Iff.rfl
      | _ => cases h'
    | tup zs => unfold addO; simp only [h, h', if_pos hl]; exact Iff.rfl
    | _ => cases h'
  | _ => cases h
theorem nodup_le {α : Type} [DecidableEq α] : ∀ {l l' : List α}, l.Nodup → (∀ x ∈ l, x ∈ l') → l.length ≤ l'.length
  | [], l', _, _ => Nat.zero_le _
  | x :: r, l', h, hs => by
    rw [List.nodup_cons] at h
    have hx := hs x (by simp)
    have ih := nodup_le (l := r) (l' := l'.erase x) h.2 fun y hy => by
      have hne : y ≠ x := fun e => h.1 (e ▸ hy)
      exact (List.mem_erase_of_ne hne).mpr (hs y (by simp [hy]))
    rw [List.length_erase_of_mem hx] at ih
    have : 0 < l'.length := List.length_pos_of_mem hx
    simp; omega
end DL
set_option Elab.async false
set_option linter.all false
set_option maxRecDepth 100000
set_option maxHeartbeats 2000000
/-! PD: plain data. What a def computes as a function of data: no memory in sight; lists and dicts that one slot alone holds may grow. -/
namespace PD
open PySem PySem.Spec PyProof.Rows L2 DL
mutual
/-- w reads x in m, and looks at no cell of A -/
inductive RdA (m : Mm) (A : List Nat) : Wd → PyData → Prop
  | d {x : PyData} : okD x = true → RdA m A (.d x) x
  | tup {ws : List Wd} {ds : List PyData} : RdsA m A ws ds → RdA m A (.tup ws) (.tuple ds)
  | lst {n : Nat} {ws : List Wd} {ds : List PyData} : Has m n (.lst ws) → n ∉ A → RdsA m A ws ds → RdA m A (.ref n) (.list ds)
  | dct {n : Nat} {ws : List (PyData × Wd)} {ds : List (PyData × PyData)} : Has m n (.dct ws) → n ∉ A → RdkA m A ws ds → RdA m A (.ref n) (.dict ds)
inductive RdsA (m : Mm) (A : List Nat) : List Wd → List PyData → Prop
  | nil : RdsA m A [] []
  | cons {w : Wd} {ws : List Wd} {x : PyData} {xs : List PyData} : RdA m A w x → RdsA m A ws xs → RdsA m A (w :: ws) (x :: xs)
inductive RdkA (m : Mm) (A : List Nat) : List (PyData × Wd) → List (PyData × PyData) → Prop
  | nil : RdkA m A [] []
  | cons {k : PyData} {w : Wd} {ws : List (PyData × Wd)} {x : PyData} {xs : List (PyData × PyData)} : okD k = true → RdA m A w x → RdkA m A ws xs → RdkA m A ((k, w) :: ws) ((k, x) :: xs)
end
inductive Co where
  | l (xs : List PyData) | k (kvs : List (PyData × PyData))
def Co.toD : Co → PyData
  | .l xs => .list xs
  | .k kvs => .dict kvs
def RdC (m : Mm) (A : List Nat) : Cell → Co → Prop
  | .lst ws, .l xs => RdsA m A ws xs
  | .dct ws, .k xs => RdkA m A ws xs
  | _, _ => False
section
variable {m m' : Mm} {A A' : List Nat} {k n n0 : Nat}
mutual
theorem RdA.mv (h1 : ∀ k c, Has m k c → k ∉ A → Has m' k c ∧ k ∉ A') : ∀ {w : Wd} {x : PyData}, RdA m A w x → RdA m' A' w x
  | _, _, .d h => .d h
  | _, _, .tup h => .tup (RdsA.mv h1 h)
  | _, _, .lst h hn hs => .lst (h1 _ _ h hn).1 (h1 _ _ h hn).2 (RdsA.mv h1 hs)
  | _, _, .dct h hn hs => .dct (h1 _ _ h hn).1 (h1 _ _ h hn).2 (RdkA.mv h1 hs)
theorem RdsA.mv (h1 : ∀ k c, Has m k c → k ∉ A → Has m' k c ∧ k ∉ A') : ∀ {w : List Wd} {x : List PyData}, RdsA m A w x → RdsA m' A' w x
  | _, _, .nil => .nil
  | _, _, .cons h hs => .cons (RdA.mv h1 h) (RdsA.mv h1 hs)
theorem RdkA.mv (h1 : ∀ k c, Has m k c → k ∉ A → Has m' k c ∧ k ∉ A') : ∀ {w : List (PyData × Wd)} {x : List (PyData × PyData)}, RdkA m A w x → RdkA m' A' w x
  | _, _, .nil => .nil
  | _, _, .cons hk h hs => .cons hk (RdA.mv h1 h) (RdkA.mv h1 hs)
end
theorem RdC.mv (h1 : ∀ k c, Has m k c → k ∉ A → Has m' k c ∧ k ∉ A') {cl : Cell} {c : Co} (h : RdC m A cl c) : RdC m' A' cl c := by
  cases cl with
  | lst ws => cases c with
    | l xs => exact RdsA.mv h1 h
    | k xs => exact h.elim
  | dct ws => cases c with
    | k xs => exact RdkA.mv h1 h
    | l xs => exact h.elim
  | ins _ _ => exact h.elim
  | tab _ _ => exact h.elim
theorem RdA.of {n : Nat} {cl : Cell} {c : Co} (h : Has m n cl) (hn : n ∉ A) (r : RdC m A cl c) : RdA m A (.ref n) c.toD := by
  cases cl with
  | lst ws => cases c with
    | l xs => exact .lst h hn r
    | k xs => exact r.elim
  | dct ws => cases c with
    | k xs => exact .dct h hn r
    | l xs => exact r.elim
  | ins _ _ => exact r.elim
  | tab _ _ => exact r.elim
theorem RdsA.length : ∀ {ws : List Wd} {ds : List PyData}, RdsA m A ws ds → ws.length = ds.length
  | _, _, .nil => rfl
  | _, _, .cons _ h => congrArg (· + 1) (RdsA.length h)
theorem RdkA.length : ∀ {ws : List (PyData × Wd)} {ds : List (PyData × PyData)}, RdkA m A ws ds → ws.length = ds.length
  | _, _, .nil => rfl
  | _, _, .cons _ _ h => congrArg (· + 1) (RdkA.length h)
theorem RdsA.get : ∀ {ws : List Wd} {ds : List PyData} {i : Nat} {x : PyData}, RdsA m A ws ds → ds[i]? = some x → ∃ w, ws[i]? = some w ∧ RdA m A w x
  | _, _, i, x, .nil, e => by simp at e
  | _, _, 0, x, .cons h _, e => by simp at e; subst e; exact ⟨_, rfl, h⟩
  | _, _, i + 1, x, .cons _ h, e => by
    obtain ⟨v, e1, r⟩ := RdsA.get (i := i) (x := x) h (by simpa using e)
    exact ⟨v, by simpa using e1, r⟩
theorem RdsA.append : ∀ {ws ws' : List Wd} {vs vs' : List PyData}, RdsA m A ws vs → RdsA m A ws' vs' → RdsA m A (ws ++ ws') (vs ++ vs')
  | _, _, _, _, .nil, h => h
  | _, _, _, _, .cons h hs, h' => .cons h (RdsA.append hs h')
theorem RdsA.take : ∀ {ws : List Wd} {vs : List PyData} (n : Nat), RdsA m A ws vs → RdsA m A (ws.take n) (vs.take n)
  | _, _, 0, _ => .nil
  | _, _, _ + 1, .nil => .nil
  | _, _, n + 1, .cons h hs => .cons h (RdsA.take n hs)
theorem RdsA.drop : ∀ {ws : List Wd} {vs : List PyData} (n : Nat), RdsA m A ws vs → RdsA m A (ws.drop n) (vs.drop n)
  | _, _, 0, h => h
  | _, _, _ + 1, .nil => .nil
  | _, _, n + 1, .cons h hs => RdsA.drop n hs
theorem RdsA.set {w : Wd} {v : PyData} (r : RdA m A w v) : ∀ {ws : List Wd} {vs : List PyData} (n : Nat), RdsA m A ws vs → RdsA m A (ws.set n w) (vs.set n v)
  | _, _, _, .nil => .nil
  | _, _, 0, .cons h hs => .cons r hs
  | _, _, n + 1, .cons h hs => .cons h (RdsA.set r n hs)
theorem RdsA.erase : ∀ {ws : List Wd} {vs : List PyData} (n : Nat), RdsA m A ws vs → RdsA m A (ws.eraseIdx n) (vs.eraseIdx n)
  | _, _, _, .nil => .nil
  | _, _, 0, .cons h hs => hs
  | _, _, n + 1, .cons h hs => .cons h (RdsA.erase n hs)
theorem RdsA.rev {ws : List Wd} {vs : List PyData} (h : RdsA m A ws vs) : RdsA m A ws.reverse vs.reverse := by
  induction ws generalizing vs with
  | nil => cases h; exact .nil
  | cons w ws ih =>
    cases h with
    | cons h hs =>
      rw [List.reverse_cons, List.reverse_cons]
      exact (ih hs).append (.cons h .nil)
theorem rdsA_d : ∀ {ds : List PyData}, okDs ds = true → RdsA m A (ds.map .d) ds
  | [], _ => .nil
  | x :: r, h => by
    have h' : (okD x && okDs r) = true := h
    rw [Bool.and_eq_true] at h'
    exact .cons (.d h'.1) (rdsA_d h'.2)
theorem rdsA_of_d : ∀ (ds : List PyData) {es : List PyData}, RdsA m A (ds.map .d) es → es = ds ∧ okDs ds = true := by
  intro ds
  induction ds with
  | nil => intro es h; cases h; exact ⟨rfl, rfl⟩
  | cons x r ih =>
    intro es h
    cases h with
    | cons h hs =>
      obtain ⟨e, h2⟩ := ih hs
      cases h with
      | d h => exact ⟨by rw [e], by show (okD x && okDs r) = true; rw [h, h2]; rfl⟩
theorem rdA_tup {ws : List Wd} {ds : List PyData} (h : RdsA m A ws ds) : RdA m A (mkTup ws) (.tuple ds) := by
  unfold mkTup
  cases q : allD ws with
  | none => exact .tup h
  | some es =>
    rw [allD_eq q] at h
    obtain ⟨e, h2⟩ := rdsA_of_d _ h
    subst e
    exact .d h2
/-- what reads data that has no list in it -/
theorem RdA.flat {w : Wd} {x : PyData} (h : RdA m A w x) (hx : flatD x = true) : w = .d x := by
  cases h with
  | d _ => rfl
  | _ => cases hx
theorem RdA.tupI {w : Wd} {ds : List PyData} (h : RdA m A w (.tuple ds)) : ∃ ws, tupOf w = some ws ∧ RdsA m A ws ds := by
  cases h with
  | d h => exact ⟨_, rfl, rdsA_d h⟩
  | tup h => exact ⟨_, rfl, h⟩
theorem RdA.lstI {w : Wd} {ds : List PyData} (h : RdA m A w (.list ds)) : ∃ n ws, w = .ref n ∧ Has m n (.lst ws) ∧ n ∉ A ∧ RdsA m A ws ds := by
  cases h with
  | d h => cases h
  | lst h hn hs => exact ⟨_, _, rfl, h, hn, hs⟩
/-! ### cells in order -/
mutual
theorem Wd.lt_mono {a b : Nat} (h : a ≤ b) : ∀ {w : Wd}, w.lt a = true → w.lt b = true
  | .d _, _ => rfl
  | .ref n, e => decide_eq_true (Nat.lt_of_lt_of_le (of_decide_eq_true e) h)
  | .tup xs, e => Wd.ltAll_mono h e
  | .rol xs, e => Wd.ltAll_mono h e
  | .v _, _ => rfl
theorem Wd.ltAll_mono {a b : Nat} (h : a ≤ b) : ∀ {w : List Wd}, Wd.ltAll a w = true → Wd.ltAll b w = true
  | [], _ => rfl
  | x :: xs, e => by
    have e' : (Wd.lt a x && Wd.ltAll a xs) = true := e
    rw [Bool.and_eq_true] at e'
    show (Wd.lt b x && Wd.ltAll b xs) = true
    rw [Wd.lt_mono h e'.1, Wd.ltAll_mono h e'.2]; rfl
end
theorem Cell.lt_mono {a b : Nat} (h : a ≤ b) {c : Cell} (e : c.lt a = true) : c.lt b = true := by
  cases c with
  | lst xs => exact Wd.ltAll_mono h e
  | dct xs => exact Wd.ltAll_mono h e
  | ins _ xs => exact Wd.ltAll_mono h e
  | tab _ _ => rfl
theorem ltAll_iff {a : Nat} : ∀ {ws : List Wd}, Wd.ltAll a ws = true ↔ ∀ w ∈ ws, w.lt a = true
  | [] => ⟨fun _ _ h => absurd h (by simp), fun _ => rfl⟩
  | x :: xs => by
    show (Wd.lt a x && Wd.ltAll a xs) = true ↔ _
    rw [Bool.and_eq_true, ltAll_iff]
    simp
structure WF (m : Mm) : Prop where
  lt : ∀ k c, Has m k c → c.lt m.cells.length = true
  top : ∀ p ∈ m.stk, p.1 ≤ m.cells.length
  ord : (m.stk.map (·.1)).Pairwise (fun x y => y ≤ x)
  clean : ∀ p ∈ m.stk, ∀ (n : Nat) c, n < p.1 → n ∉ p.2 → Has m n c → c.lt p.1 = true
theorem push_len (c : Cell) : (m.push c).cells.length = m.cells.length + 1 := by simp [Mm.push]
theorem put_len (c : Cell) (p : Bool) : (m.put n c p).cells.length = m.cells.length := by simp [Mm.put]
theorem has_push_inv {c c' : Cell} (h : Has (m.push c) k c') : Has m k c' ∨ (k = m.cells.length ∧ c' = c) := by
  by_cases hk : k < m.cells.length
  · have h' : (m.cells ++ [c])[k]? = some c' := h
    rw [List.getElem?_append_left hk] at h'
    exact .inl h'
  · have hl := h.lt
    rw [push_len] at hl
    have e : k = m.cells.length := by omega
    subst e
    exact .inr ⟨rfl, (h.inj has_push)⟩
theorem has_put_inv {c c' : Cell} {p : Bool} (hn : n < m.cells.length) (h : Has (m.put n c p) k c') : (k ≠ n ∧ Has m k c') ∨ (k = n ∧ c' = c) := by
  by_cases hk : k = n
  · subst hk
    exact .inr ⟨rfl, h.inj (has_put hn)⟩
  · refine .inl ⟨hk, ?_⟩
    have h' : (m.cells.set n c)[k]? = some c' := h
    rwa [List.getElem?_set_ne (Ne.symm hk)] at h'
theorem WF.push (w : WF m) {c : Cell} (hc : c.lt m.cells.length = true) : WF (m.push c) := by
  refine ⟨fun k c' h => ?_, fun p hp => ?_, w.ord, fun p hp k c' hk hd h => ?_⟩
  · rw [push_len]
    rcases has_push_inv h with h | ⟨_, e⟩
    · exact Cell.lt_mono (Nat.le_succ _) (w.lt k c' h)
    · rw [e]; exact Cell.lt_mono (Nat.le_succ _) hc
  · rw [push_len]
    exact Nat.le_succ_of_le (w.top p hp)
  · rcases has_push_inv h with h | ⟨e, _⟩
    · exact w.clean p hp k c' hk hd h
    · have := w.top p hp
      omega
theorem WF.put (w : WF m) {c c0 : Cell} {pure : Bool} (h0 : Has m n c0) (hc : c.lt m.cells.length = true) (hp : pure = true → ∀ b, c0.lt b = true → c.lt b = true) : WF (m.put n c pure) := by
  have stk : ∀ q ∈ (m.put n c pure).stk, ∃ q0 ∈ m.stk, q.1 = q0.1 ∧ ∀ x, x ∉ q.2 → x ∉ q0.2 ∧ (x = n → pure = true) := fun q hq => by
    have hq' : q ∈ (if pure then m.stk else m.stk.map fun p => (p.1, n :: p.2)) := hq
    cases pure with
    | true => exact ⟨q, hq', rfl, fun x hx => ⟨hx, fun _ => rfl⟩⟩
    | false =>
      obtain ⟨q0, h0, e⟩ := List.mem_map.mp hq'
      subst e
      exact ⟨q0, h0, rfl, fun x hx => ⟨fun z => hx (List.mem_cons_of_mem _ z), fun e => absurd (by rw [e]; exact List.mem_cons_self) hx⟩⟩
  refine ⟨fun k c' h => ?_, fun q hq => ?_, ?_, fun q hq k c' hk hd h => ?_⟩
  · rw [put_len]
    rcases has_put_inv h0.lt h with ⟨_, h⟩ | ⟨_, e⟩
    · exact w.lt k c' h
    · rw [e]; exact hc
  · obtain ⟨q0, h1, e, _⟩ := stk q hq
    rw [put_len, e]
    exact w.top q0 h1
  · show ((if pure then m.stk else m.stk.map fun p => (p.1, n :: p.2)).map (·.1)).Pairwise _
    cases pure with
    | true => exact w.ord
    | false =>
      rw [if_neg (by decide), List.map_map]
      exact w.ord
  · obtain ⟨q0, h1, e, hx⟩ := stk q hq
    rw [e] at hk ⊢
    rcases has_put_inv h0.lt h with ⟨hne, h⟩ | ⟨e1, e2⟩
    · exact w.clean q0 h1 k c' hk (hx k hd).1 h
    · subst e1 e2
      exact hp ((hx k hd).2 rfl) _ (w.clean q0 h1 k c0 hk (hx k hd).1 h0)
theorem WF.openS (w : WF m) : WF m.openS := by
  refine ⟨w.lt, fun p hp => ?_, ?_, fun p hp k c hk hd h => ?_⟩
  · rcases List.mem_cons.mp hp with e | hp
    · subst e; exact Nat.le_refl _
    · exact w.top p hp
  · show (m.cells.length :: m.stk.map (·.1)).Pairwise _
    refine List.pairwise_cons.mpr ⟨fun x hx => ?_, w.ord⟩
    obtain ⟨q, hq, e⟩ := List.mem_map.mp hx
    subst e
    exact w.top q hq
  · rcases List.mem_cons.mp hp with e | hp
    · subst e; exact w.lt k c h
    · exact w.clean p hp k c hk hd h
/-- behind a scope's end: all cells, or just the older ones, which hold no other -/
theorem WF.close {held : Bool} (w : WF m) : WF (m.closeS n0 held) ∧ ((m.closeS n0 held).cells = m.cells ∨ (held = true ∧ (m.closeS n0 held).cells = m.cells.take n0 ∧ n0 ≤ m.cells.length ∧ ∀ k c, k < n0 → Has m k c → c.lt n0 = true)) := by
  unfold Mm.closeS
  cases hs : m.stk with
  | nil => exact ⟨w, .inl rfl⟩
  | cons p r =>
    obtain ⟨b, ds⟩ := p
    have wr : WF ⟨m.cells, r⟩ := ⟨w.lt, fun q hq => w.top q (by rw [hs]; exact List.mem_cons_of_mem _ hq), by have := w.ord; rw [hs] at this; exact (List.pairwise_cons.mp this).2, fun q hq => w.clean q (by rw [hs]; exact List.mem_cons_of_mem _ hq)⟩
    simp only []
    split
    · rename_i hb
      rw [Bool.and_eq_true, Bool.and_eq_true] at hb
      obtain ⟨⟨e1, e2⟩, e3⟩ := hb
      have e1 := of_decide_eq_true e1
      subst e1
      have hle : b ≤ m.cells.length := w.top (b, ds) (by rw [hs]; exact List.mem_cons_self)
      have all : ∀ k c, k < b → Has m k c → c.lt b = true := fun k c hk h => by
        by_cases hd : k ∈ ds
        · have := List.all_eq_true.mp e3 k hd
          rw [Bool.or_eq_true] at this
          rcases this with z | z
          · exact absurd (of_decide_eq_true z) (by omega)
          · rw [show m.cells[k]? = some c from h] at z; exact z
        · exact w.clean (b, ds) (by rw [hs]; exact List.mem_cons_self) k c hk hd h
      have tk : ∀ {k : Nat} {c : Cell}, (m.cells.take b)[k]? = some c → k < b ∧ Has m k c := fun {k c} h => by
        have hl := get_of h
        rw [List.length_take] at hl
        have hk : k < b := by omega
        rw [List.getElem?_take, if_pos hk] at h
        exact ⟨hk, h⟩
      refine ⟨⟨fun k c h => ?_, fun q hq => ?_, wr.ord, fun q hq k c hk hd h => ?_⟩, .inr ⟨e2, rfl, hle, all⟩⟩
      · obtain ⟨h1, h2⟩ := tk h
        have := all k c h1 h2
        show c.lt (m.cells.take b).length = true
        rw [List.length_take, Nat.min_eq_left hle]
        exact this
      · have := w.ord
        rw [hs] at this
        have hq1 : q.1 ≤ b := (List.pairwise_cons.mp this).1 q.1 (List.mem_map.mpr ⟨q, hq, rfl⟩)
        show q.1 ≤ (m.cells.take b).length
        rw [List.length_take]
        omega
      · exact wr.clean q hq k c hk hd (tk h).2
    · exact ⟨wr, .inl rfl⟩
mutual
theorem RdA.lt : ∀ {w : Wd} {x : PyData}, RdA m A w x → w.lt m.cells.length = true
  | _, _, .d _ => rfl
  | _, _, .tup h => RdsA.lt h
  | _, _, .lst h _ _ => decide_eq_true h.lt
  | _, _, .dct h _ _ => decide_eq_true h.lt
theorem RdsA.lt : ∀ {w : List Wd} {x : List PyData}, RdsA m A w x → Wd.ltAll m.cells.length w = true
  | _, _, .nil => rfl
  | _, _, .cons h hs => by
    show (Wd.lt m.cells.length _ && Wd.ltAll m.cells.length _) = true
    rw [RdA.lt h, RdsA.lt hs]; rfl
end
theorem RdkA.lt : ∀ {w : List (PyData × Wd)} {x : List (PyData × PyData)}, RdkA m A w x → Wd.ltAll m.cells.length (w.map (·.2)) = true
  | _, _, .nil => rfl
  | _, _, .cons _ h hs => by
    show (Wd.lt m.cells.length _ && Wd.ltAll m.cells.length _) = true
    rw [RdA.lt h, RdkA.lt hs]; rfl
theorem RdC.lt {cl : Cell} {c : Co} (h : RdC m A cl c) : cl.lt m.cells.length = true := by
  cases cl with
  | lst ws => cases c with
    | l xs => exact RdsA.lt h
    | k xs => exact h.elim
  | dct ws => cases c with
    | k xs => exact RdkA.lt h
    | l xs => exact h.elim
  | ins _ _ => exact h.elim
  | tab _ _ => exact h.elim
mutual
theorem RdA.cut (hl : m'.cells = m.cells.take n0) (ha : ∀ k c, k < n0 → Has m k c → c.lt n0 = true) : ∀ {w : Wd} {x : PyData}, RdA m A w x → w.lt n0 = true → RdA m' A w x
  | _, _, .d h, _ => .d h
  | _, _, .tup h, e => .tup (RdsA.cut hl ha h e)
  | _, _, .lst (n := n) h hn hs, e => by
    have hk : n < n0 := of_decide_eq_true e
    exact .lst (by show m'.cells[n]? = _; rw [hl]; exact take_get h hk) hn (RdsA.cut hl ha hs (ha _ _ hk h))
  | _, _, .dct (n := n) h hn hs, e => by
    have hk : n < n0 := of_decide_eq_true e
    exact .dct (by show m'.cells[n]? = _; rw [hl]; exact take_get h hk) hn (RdkA.cut hl ha hs (ha _ _ hk h))
theorem RdsA.cut (hl : m'.cells = m.cells.take n0) (ha : ∀ k c, k < n0 → Has m k c → c.lt n0 = true) : ∀ {w : List Wd} {x : List PyData}, RdsA m A w x → Wd.ltAll n0 w = true → RdsA m' A w x
  | _, _, .nil, _ => .nil
  | _, _, .cons h hs, e => by
    have e' : (Wd.lt n0 _ && Wd.ltAll n0 _) = true := e
    rw [Bool.and_eq_true] at e'
    exact .cons (RdA.cut hl ha h e'.1) (RdsA.cut hl ha hs e'.2)
theorem RdkA.cut (hl : m'.cells = m.cells.take n0) (ha : ∀ k c, k < n0 → Has m k c → c.lt n0 = true) : ∀ {w : List (PyData × Wd)} {x : List (PyData × PyData)}, RdkA m A w x → Wd.ltAll n0 (w.map (·.2)) = true → RdkA m' A w x
  | _, _, .nil, _ => .nil
  | _, _, .cons hk h hs, e => by
    have e' : (Wd.lt n0 _ && Wd.ltAll n0 _) = true := e
    rw [Bool.and_eq_true] at e'
    exact .cons hk (RdA.cut hl ha h e'.1) (RdkA.cut hl ha hs e'.2)
end
/-- a value that is still held behind a scope's end -/
theorem RdA.close {held : Bool} (wf : WF m) {w : Wd} {x : PyData} (h : RdA m A w x) (hl : held = true → w.lt n0 = true) : RdA (m.closeS n0 held) A w x := by
  rcases (wf.close (n0 := n0) (held := held)).2 with e | ⟨h1, h2, h3, h4⟩
  · exact h.mv fun k c hk hn => ⟨by show (m.closeS n0 held).cells[k]? = _; rw [e]; exact hk, hn⟩
  · exact h.cut h2 h4 (hl h1)
end
end PD
set_option Elab.async false
set_option linter.all false
set_option maxRecDepth 100000
set_option maxHeartbeats 2000000
namespace PD
open PySem PySem.Spec PyProof.Rows L2 DL
/-! ### values, slots, what a piece of the text gives -/
/-- the bag of draws -/
structure Bg where
  a : Int
  b : Int
  c : Int
  xs : List Int
structure PEx where
  cls : Str
  fs : List (Str × PyData)
inductive PR (α : Type) where
  | ok (a : α) (s : Bg) | exc (x : PEx) (s : Bg) | stuck
def PR.bind {α β : Type} : PR α → (α → Bg → PR β) → PR β
  | .ok a s, k => k a s
  | .exc x s, _ => .exc x s
  | .stuck, _ => .stuck
@[simp] theorem PR.bind_ok {α β : Type} (a : α) (s : Bg) (k : α → Bg → PR β) : (PR.ok a s).bind k = k a s := rfl
@[simp] theorem PR.bind_exc {α β : Type} (x : PEx) (s : Bg) (k : α → Bg → PR β) : (PR.exc x s).bind k = .exc x s := rfl
@[simp] theorem PR.bind_stuck {α β : Type} (k : α → Bg → PR β) : (PR.stuck : PR α).bind k = .stuck := rfl
/-- d: data that never changes again; fr: a list or dict that nobody else has; bo: the one that slot i has; bag: the bag -/
inductive PV where
  | d (x : PyData) | fr (c : Co) | bo (i : Nat) (c : Co) | bag
inductive Sl where
  | no | d (x : PyData) | own (c : Co) | bag
abbrev PEnv := List Sl
abbrev Pe (α : Type) := PEnv → Bg → PR α
abbrev PFn := List PV → Bg → PR PV
inductive PFl where
  | nx | rt (v : PV) | bk | ct
inductive PS where
  | go (f : PFl) (e : PEnv) (s : Bg) | exc (x : PEx) (e : PEnv) (s : Bg) | stuck
abbrev Ps := PEnv → Bg → PS
def PR.of {α : Type} (o : Option α) (s : Bg) : PR α := match o with
  | some v => .ok v s
  | none => .stuck
@[simp] theorem PR.of_some {α : Type} (v : α) (s : Bg) : PR.of (some v) s = .ok v s := rfl
@[simp] theorem PR.of_none {α : Type} (s : Bg) : (PR.of none s : PR α) = .stuck := rfl

/-! ### how it stands to cells -/
def Good (s : Bg) : Prop := 0 ≤ s.a ∧ 0 ≤ s.b ∧ 0 ≤ s.c ∧ (∀ x ∈ s.xs, 0 ≤ x) ∧ s.xs.length ≤ 63
abbrev Lo := Option (Nat × Nat)
def bagC : Lo → List Nat
  | none => []
  | some (i, _) => [i]
def bagA : Lo → List Nat
  | none => []
  | some (i, r) => [i, r]
def BagR (B : Lo) (A : List Nat) (m : Mm) (s : Bg) : Prop := match B with
  | none => True
  | some (i, r) => i ≠ r ∧ i ∈ A ∧ r ∈ A ∧ Has m i (.lst [.d (.int s.a), .d (.int s.b), .d (.int s.c), .ref r]) ∧ Has m r (.lst (s.xs.map fun x => .d (.int x))) ∧ Good s
def Tabs (tl : List (Str × Str)) (m : Mm) : Prop := ∀ p ∈ tl, ∃ k, Has m k (.tab p.1 p.2)
structure SR (tl : List (Str × Str)) (B : Lo) (n0 : Nat) (A : List Nat) (env : DL.Env) (m : Mm) (pe : PEnv) (s : Bg) : Prop where
  wf : WF m
  le : n0 ≤ m.cells.length
  len : env.length = pe.length
  val : ∀ (i : Nat) x, pe[i]? = some (.d x) → ∃ w, env[i]? = some (some w) ∧ RdA m A w x
  bagv : ∀ i : Nat, pe[i]? = some .bag → ∃ ib r, B = some (ib, r) ∧ env[i]? = some (some (.ref ib))
  own : ∀ (i : Nat) c, pe[i]? = some (.own c) → ∃ n cl, env[i]? = some (some (.ref n)) ∧ n ∈ A ∧ n0 ≤ n ∧ n ∉ bagA B ∧ Has m n cl ∧ RdC m A cl c
  dst : ∀ (i j : Nat) c c' n, pe[i]? = some (.own c) → pe[j]? = some (.own c') → env[i]? = some (some (.ref n)) → env[j]? = some (some (.ref n)) → i = j
  bag : BagR B A m s
  alt : ∀ n ∈ A, n < m.cells.length
  tab : Tabs tl m
def VR (pe : PEnv) (env : DL.Env) (B : Lo) (A : List Nat) (b0 : Nat) (m : Mm) : PV → Wd → Prop
  | .d x, w => RdA m A w x
  | .fr c, w => ∃ n cl, w = .ref n ∧ b0 ≤ n ∧ n ∉ A ∧ Has m n cl ∧ RdC m (n :: A) cl c
  | .bo i c, w => pe[i]? = some (.own c) ∧ env[i]? = some (some w)
  | .bag, w => ∃ i r, B = some (i, r) ∧ w = .ref i
/-- a fresh one lies below b -/
def Below (b : Nat) : PV → Wd → Prop
  | .fr _, w => ∀ n, w = .ref n → n < b
  | _, _ => True
/-- a fresh one is nobody else's from here on -/
def grow (A : List Nat) : PV → Wd → List Nat
  | .fr _, .ref n => n :: A
  | _, _ => A
def VRs (pe : PEnv) (env : DL.Env) (B : Lo) : List Nat → Nat → Mm → List PV → List Wd → Prop
  | _, _, _, [], [] => True
  | A, b0, m, v :: vs, w :: ws => ∃ m1 : Mm, b0 ≤ m1.cells.length ∧ Fr (bagC B) m1 m ∧ VR pe env B A b0 m1 v w ∧ Below m1.cells.length v w ∧ VRs pe env B (grow A v w) m1.cells.length m vs ws
  | _, _, _, _, _ => False
def RdfA (m : Mm) (A : List Nat) : List (Str × Wd) → List (Str × PyData) → Prop
  | [], [] => True
  | (f, w) :: r, (g, x) :: r' => f = g ∧ RdA m A w x ∧ RdfA m A r r'
  | _, _ => False
def XR (m : Mm) (A : List Nat) (x : PEx) (x' : Ex) : Prop := x'.cls = x.cls ∧ RdfA m A x'.fs x.fs
def RelE {α β : Type} (rel : Nat → Mm → α → β → Prop) (B : Lo) (A : List Nat) (m : Mm) : PR α → Rs β → Prop
  | .ok v s', r => ∃ w m', r = .ok w m' ∧ Fr (bagC B) m m' ∧ WF m' ∧ BagR B A m' s' ∧ rel m.cells.length m' v w
  | .exc x s', r => ∃ x' m', r = .exc x' m' ∧ Fr (bagC B) m m' ∧ WF m' ∧ BagR B A m' s' ∧ XR m' A x x'
  | .stuck, _ => True
abbrev RelT (α β : Type) := PEnv → DL.Env → Lo → List Nat → Nat → Mm → α → β → Prop
def SimG {α β : Type} (tl : List (Str × Str)) (rel : RelT α β) (g : Pe α) (f : Em β) : Prop := ∀ (B : Lo) (n0 : Nat) (A : List Nat) (env : DL.Env) (m : Mm) (pe : PEnv) (s : Bg), SR tl B n0 A env m pe s → RelE (rel pe env B A) B A m (g pe s) (f env m)
abbrev SimE (tl : List (Str × Str)) (g : Pe PV) (f : Em Wd) : Prop := SimG tl VR g f
abbrev SimA (tl : List (Str × Str)) (g : Pe (List PV)) (f : Em (List Wd)) : Prop := SimG tl VRs g f
abbrev SimT (tl : List (Str × Str)) (g : Pe Bool) (f : Em Bool) : Prop := SimG tl (fun _ _ _ _ _ _ a b => a = b) g f
abbrev SimO (tl : List (Str × Str)) (g : Pe (Option Int)) (f : Em (Option Int)) : Prop := SimG tl (fun _ _ _ _ _ _ a b => a = b) g f
section
variable {tl : List (Str × Str)} {B : Lo} {n0 b0 b1 : Nat} {A : List Nat} {env : DL.Env} {m m' m1 : Mm} {pe : PEnv} {s s' : Bg}
theorem BagR.sub (h : BagR B A m s) : ∀ k ∈ bagC B, k ∈ A := fun k hk => by
  cases B with
  | none => cases hk
  | some p =>
    obtain ⟨i, r⟩ := p
    rw [List.mem_singleton.mp hk]
    exact h.2.1
theorem bagC_A {k : Nat} (h : k ∈ bagC B) : k ∈ bagA B := by
  cases B with
  | none => cases h
  | some p => rw [List.mem_singleton.mp h]; exact List.mem_cons_self
theorem fr_mv (hB : ∀ k ∈ bagC B, k ∈ A) (f : Fr (bagC B) m m') : ∀ k c, Has m k c → k ∉ A → Has m' k c ∧ k ∉ A := fun k c h hn => ⟨f.has h fun z => hn (hB k z), hn⟩
theorem RdA.fr (hB : ∀ k ∈ bagC B, k ∈ A) (f : Fr (bagC B) m m') {w : Wd} {x : PyData} (h : RdA m A w x) : RdA m' A w x := h.mv (fr_mv hB f)
theorem RdsA.fr (hB : ∀ k ∈ bagC B, k ∈ A) (f : Fr (bagC B) m m') {w : List Wd} {x : List PyData} (h : RdsA m A w x) : RdsA m' A w x := h.mv (fr_mv hB f)
theorem RdC.fr (hB : ∀ k ∈ bagC B, k ∈ A) (f : Fr (bagC B) m m') {w : Cell} {x : Co} (h : RdC m A w x) : RdC m' A w x := h.mv (fr_mv hB f)
theorem Tabs.fr (h : Tabs tl m) (f : Fr (bagC B) m m') (hb : BagR B A m s) : Tabs tl m' := fun p hp => by
  obtain ⟨k, hk⟩ := h p hp
  refine ⟨k, f.has hk fun z => ?_⟩
  cases B with
  | none => cases z
  | some q =>
    obtain ⟨i, r⟩ := q
    rw [List.mem_singleton.mp z] at hk
    have := hk.inj hb.2.2.2.1
    cases this
theorem SR.step (h : SR tl B n0 A env m pe s) (f : Fr (bagC B) m m') (w : WF m') (b : BagR B A m' s') : SR tl B n0 A env m' pe s' := by
  have hB := h.bag.sub
  refine ⟨w, Nat.le_trans h.le f.le, h.len, fun i x e => ?_, h.bagv, fun i c e => ?_, h.dst, b, fun n hn => Nat.lt_of_lt_of_le (h.alt n hn) f.le, h.tab.fr f h.bag⟩
  · obtain ⟨w, e1, r⟩ := h.val i x e
    exact ⟨w, e1, r.fr hB f⟩
  · obtain ⟨n, cl, e1, h1, h2, h3, h4, h5⟩ := h.own i c e
    exact ⟨n, cl, e1, h1, h2, h3, f.has h4 fun z => h3 (bagC_A z), h5.fr hB f⟩
theorem VR.step (hB : ∀ k ∈ bagC B, k ∈ A) (f : Fr (bagC B) m m') : ∀ {v : PV} {w : Wd}, VR pe env B A b0 m v w → VR pe env B A b0 m' v w
  | .d _, _, h => RdA.fr hB f h
  | .fr _, _, ⟨n, cl, e, h1, h2, h3, h4⟩ => ⟨n, cl, e, h1, h2, f.has h3 fun z => h2 (hB _ z), h4.mv fun k c hk hn => ⟨f.has hk fun z => hn (List.mem_cons_of_mem _ (hB _ z)), hn⟩⟩
  | .bo _ _, _, h => h
  | .bag, _, h => h
theorem VR.base (hb : b1 ≤ b0) : ∀ {v : PV} {w : Wd}, VR pe env B A b0 m v w → VR pe env B A b1 m v w
  | .d _, _, h => h
  | .fr _, _, ⟨n, cl, e, h1, h⟩ => ⟨n, cl, e, Nat.le_trans hb h1, h⟩
  | .bo _ _, _, h => h
  | .bag, _, h => h
theorem VR.anti {A' : List Nat} (hs : ∀ k ∈ A', k ∈ A) : ∀ {v : PV} {w : Wd}, VR pe env B A b0 m v w → VR pe env B A' b0 m v w
  | .d _, _, h => h.mv fun k c hk hn => ⟨hk, fun z => hn (hs k z)⟩
  | .fr _, _, ⟨n, cl, e, h1, h2, h3, h4⟩ => ⟨n, cl, e, h1, fun z => h2 (hs n z), h3, h4.mv fun k c hk hn => ⟨hk, fun z => hn (by
      rcases List.mem_cons.mp z with e | z
      · rw [e]; exact List.mem_cons_self
      · exact List.mem_cons_of_mem _ (hs k z))⟩⟩
  | .bo _ _, _, h => h
  | .bag, _, h => h
theorem grow_sub {A' : List Nat} (hs : ∀ k ∈ A', k ∈ A) (v : PV) (w : Wd) : ∀ k ∈ grow A' v w, k ∈ grow A v w := fun k hk => by
  unfold grow at hk ⊢
  split at hk
  · rcases List.mem_cons.mp hk with e | z
    · rw [e]; exact List.mem_cons_self
    · exact List.mem_cons_of_mem _ (hs k z)
  · exact hs k hk
theorem grow_self (v : PV) (w : Wd) : ∀ k ∈ A, k ∈ grow A v w := fun k hk => by
  unfold grow
  split
  · exact List.mem_cons_of_mem _ hk
  · exact hk
theorem VRs.base (hb : b1 ≤ b0) : ∀ {v : List PV} {w : List Wd}, VRs pe env B A b0 m v w → VRs pe env B A b1 m v w
  | [], [], h => h
  | _ :: _, _ :: _, ⟨m1, h1, h2, h3, h4⟩ => ⟨m1, Nat.le_trans hb h1, h2, h3.base hb, h4⟩
  | [], _ :: _, h => h.elim
  | _ :: _, [], h => h.elim
theorem VRs.anti : ∀ {A A' : List Nat} {b0 : Nat} {v : List PV} {w : List Wd}, (∀ k ∈ A', k ∈ A) → VRs pe env B A b0 m v w → VRs pe env B A' b0 m v w
  | _, _, _, [], [], _, h => h
  | _, _, _, v :: _, w :: _, hs, ⟨m1, h1, h2, h3, h4, h5⟩ => ⟨m1, h1, h2, h3.anti hs, h4, VRs.anti (grow_sub hs v w) h5⟩
  | _, _, _, [], _ :: _, _, h => h.elim
  | _, _, _, _ :: _, [], _, h => h.elim
/-- at the end's memory -/
theorem VRs.cons_inv (hB : ∀ k ∈ bagC B, k ∈ A) {v : PV} {vs : List PV} {w : Wd} {ws : List Wd} (h : VRs pe env B A b0 m (v :: vs) (w :: ws)) : VR pe env B A b0 m v w ∧ VRs pe env B A b0 m vs ws := by
  obtain ⟨m1, h1, h2, h3, _, h5⟩ := h
  exact ⟨h3.step hB h2, (h5.anti (grow_self v w)).base h1⟩
theorem VRs.length : ∀ {A : List Nat} {b0 : Nat} {v : List PV} {w : List Wd}, VRs pe env B A b0 m v w → v.length = w.length
  | _, _, [], [], _ => rfl
  | _, _, _ :: _, _ :: _, ⟨_, _, _, _, _, h⟩ => congrArg (· + 1) (VRs.length h)
  | _, _, [], _ :: _, h => h.elim
  | _, _, _ :: _, [], h => h.elim
theorem RelE.mono {α β : Type} {rel rel' : Nat → Mm → α → β → Prop} {r : PR α} {R : Rs β} (h : RelE rel B A m r R) (i : ∀ m' v w, Fr (bagC B) m m' → WF m' → rel m.cells.length m' v w → rel' m.cells.length m' v w) : RelE rel' B A m r R := by
  cases r with
  | ok v s' => obtain ⟨w, m', e, f, wf, b, r⟩ := h; exact ⟨w, m', e, f, wf, b, i m' v w f wf r⟩
  | exc x s' => exact h
  | stuck => trivial
theorem RelE.bind0 {α β γ δ : Type} {rel : Nat → Mm → α → β → Prop} {rel' : Nat → Mm → γ → δ → Prop} {r : PR α} {R : Rs β} {k : α → Bg → PR γ} {K : β → Mm → Rs δ} (h : RelE rel B A m r R)
    (hk : ∀ v w m' s', Fr (bagC B) m m' → WF m' → BagR B A m' s' → rel m.cells.length m' v w → RelE (fun _ => rel' m.cells.length) B A m' (k v s') (K w m')) : RelE rel' B A m (r.bind k) (R.bind K) := by
  cases r with
  | ok v s' =>
    obtain ⟨w, m', e, f, wf, b, r⟩ := h
    subst e
    have h2 := hk v w m' s' f wf b r
    show RelE rel' B A m (k v s') (K w m')
    cases e2 : k v s' with
    | ok v2 s2 =>
      rw [e2] at h2
      obtain ⟨w2, m2, e3, f2, wf2, b2, r2⟩ := h2
      exact ⟨w2, m2, e3, f.trans f2, wf2, b2, r2⟩
    | exc x s2 =>
      rw [e2] at h2
      obtain ⟨w2, m2, e3, f2, wf2, b2, r2⟩ := h2
      exact ⟨w2, m2, e3, f.trans f2, wf2, b2, r2⟩
    | stuck => trivial
  | exc x s' =>
    obtain ⟨w, m', e, f, wf, b, r⟩ := h
    subst e
    exact ⟨w, m', rfl, f, wf, b, r⟩
  | stuck => trivial
theorem RelE.bind {α β γ δ : Type} {rel : Nat → Mm → α → β → Prop} {rel' : Nat → Mm → γ → δ → Prop} {r : PR α} {R : Rs β} {k : α → Bg → PR γ} {K : β → Mm → Rs δ} (h : RelE rel B A m r R)
    (hb : ∀ b0 b1 m v w, b1 ≤ b0 → rel' b0 m v w → rel' b1 m v w)
    (hk : ∀ v w m' s', Fr (bagC B) m m' → WF m' → BagR B A m' s' → rel m.cells.length m' v w → RelE rel' B A m' (k v s') (K w m')) : RelE rel' B A m (r.bind k) (R.bind K) :=
  h.bind0 fun v w m' s' f wf b r => (hk v w m' s' f wf b r).mono fun m2 v2 w2 f2 _ r2 => hb _ _ _ _ _ f.le r2
/-- at most one new cell -/
def Nx (m m' : Mm) : Prop := m' = m ∨ ∃ c : Cell, c.lt m.cells.length = true ∧ m' = m.push c
theorem BagR.fr0 (h : BagR B A m s) (f : Fr [] m m') : BagR B A m' s := by
  cases B with
  | none => trivial
  | some p => exact ⟨h.1, h.2.1, h.2.2.1, f.has h.2.2.2.1, f.has h.2.2.2.2.1, h.2.2.2.2.2⟩
theorem Nx.fr0 (h : Nx m m') : Fr [] m m' := by
  rcases h with e | ⟨c, _, e⟩
  · subst e; exact .refl
  · subst e; exact fr_push
theorem Nx.wf (h : Nx m m') (w : WF m) : WF m' := by
  rcases h with e | ⟨c, hc, e⟩
  · subst e; exact w
  · subst e; exact w.push hc
theorem relE_of {α β : Type} {rel : Nat → Mm → α → β → Prop} {v : α} {w : β} (h : SR tl B n0 A env m pe s) (n : Nx m m') (r : rel m.cells.length m' v w) : RelE rel B A m (.ok v s) (.ok w m') :=
  ⟨w, m', rfl, n.fr0.any, n.wf h.wf, h.bag.fr0 n.fr0, r⟩
/-! ### expressions -/
def pC (x : PyData) : Pe PV := fun _ s => .ok (.d x) s
def pV (i : Nat) : Pe PV := fun e s => match e[i]? with
  | some (.d x) => .ok (.d x) s
  | some (.own c) => .ok (.bo i c) s
  | some .bag => .ok .bag s
  | _ => .stuck
def p1 (p : PV → Option PV) (g : Pe PV) : Pe PV := fun e s => (g e s).bind fun a s => PR.of (p a) s
def p2 (p : PV → PV → Option PV) (ga gb : Pe PV) : Pe PV := fun e s => (ga e s).bind fun a s => (gb e s).bind fun b s => PR.of (p a b) s
def pN (p : List PV → Option PV) (g : Pe (List PV)) : Pe PV := fun e s => (g e s).bind fun vs s => PR.of (p vs) s
def paN : Pe (List PV) := fun _ s => .ok [] s
def paC (g : Pe PV) (r : Pe (List PV)) : Pe (List PV) := fun e s => (g e s).bind fun v s => (r e s).bind fun vs s => .ok (v :: vs) s
def Op1Ok (g : Op1) (p : PV → Option PV) : Prop := ∀ {tl : List (Str × Str)} {B : Lo} {n0 : Nat} {A : List Nat} {env : DL.Env} {m : Mm} {pe : PEnv} {s : Bg} {a : PV} {wa : Wd} {v : PV}, SR tl B n0 A env m pe s → VR pe env B A 0 m a wa → p a = some v → ∃ w m', g wa m = some (w, m') ∧ Nx m m' ∧ VR pe env B A m.cells.length m' v w
def Op2Ok (g : Op2) (p : PV → PV → Option PV) : Prop := ∀ {tl : List (Str × Str)} {B : Lo} {n0 : Nat} {A : List Nat} {env : DL.Env} {m : Mm} {pe : PEnv} {s : Bg} {a b : PV} {wa wb : Wd} {v : PV}, SR tl B n0 A env m pe s → VR pe env B A 0 m a wa → VR pe env B A 0 m b wb → p a b = some v → ∃ w m', g wa wb m = some (w, m') ∧ Nx m m' ∧ VR pe env B A m.cells.length m' v w
def OpNOk (g : OpN) (p : List PV → Option PV) : Prop := ∀ {tl : List (Str × Str)} {B : Lo} {n0 : Nat} {A : List Nat} {env : DL.Env} {m : Mm} {pe : PEnv} {s : Bg} {vs : List PV} {ws : List Wd} {v : PV}, SR tl B n0 A env m pe s → VRs pe env B A 0 m vs ws → p vs = some v → ∃ w m', g ws m = some (w, m') ∧ Nx m m' ∧ VR pe env B A m.cells.length m' v w
theorem sim_C {x : PyData} (hx : okD x = true) : SimE tl (pC x) (eC (.d x)) := fun B n0 A env m pe s h => relE_of h (.inl rfl) (.d hx)
theorem sim_V {i : Nat} : SimE tl (pV i) (eV i) := fun B n0 A env m pe s h => by
  show RelE _ _ _ _ (match pe[i]? with
    | some (.d x) => PR.ok (PV.d x) s
    | some (.own c) => PR.ok (PV.bo i c) s
    | some .bag => PR.ok PV.bag s
    | _ => (PR.stuck : PR PV)) _
  unfold eV
  split
  · rename_i x e
    obtain ⟨w, e1, r⟩ := h.val i x e
    rw [e1]
    exact relE_of h (.inl rfl) r
  · rename_i c e
    obtain ⟨n, cl, e1, _⟩ := h.own i c e
    rw [e1]
    exact relE_of h (.inl rfl) ⟨e, e1⟩
  · rename_i e
    obtain ⟨ib, r, e0, e1⟩ := h.bagv i e
    rw [e1]
    exact relE_of h (.inl rfl) ⟨ib, r, e0, rfl⟩
  · trivial
theorem sim_1 {g : Op1} {p : PV → Option PV} {ga : Pe PV} {fa : Em Wd} (o : Op1Ok g p) (ha : SimE tl ga fa) : SimE tl (p1 p ga) (e1 g fa) := fun B n0 A env m pe s h =>
  (ha B n0 A env m pe s h).bind (fun _ _ _ _ _ hb => VR.base hb) fun a wa m1 s1 f1 w1 b1 r1 => by
    have h1 := h.step f1 w1 b1
    cases e : p a with
    | none => trivial
    | some v =>
      obtain ⟨w, m', e1, nx, r⟩ := o h1 (r1.base (Nat.zero_le _)) e
      rw [e1]
      exact relE_of h1 nx r
theorem sim_2 {g : Op2} {p : PV → PV → Option PV} {ga gb : Pe PV} {fa fb : Em Wd} (o : Op2Ok g p) (ha : SimE tl ga fa) (hb : SimE tl gb fb) : SimE tl (p2 p ga gb) (e2 g fa fb) := fun B n0 A env m pe s h =>
  (ha B n0 A env m pe s h).bind (fun _ _ _ _ _ hb => VR.base hb) fun a wa m1 s1 f1 w1 b1 r1 => by
    have h1 := h.step f1 w1 b1
    refine (hb B n0 A env m1 pe s1 h1).bind (fun _ _ _ _ _ hb => VR.base hb) fun b wb m2 s2 f2 w2 b2 r2 => ?_
    have h2 := h1.step f2 w2 b2
    cases e : p a b with
    | none => trivial
    | some v =>
      obtain ⟨w, m', e1, nx, r⟩ := o h2 ((r1.step h.bag.sub f2).base (Nat.zero_le _)) (r2.base (Nat.zero_le _)) e
      rw [e1]
      exact relE_of h2 nx r
theorem sim_N {g : OpN} {p : List PV → Option PV} {ga : Pe (List PV)} {fa : Em (List Wd)} (o : OpNOk g p) (ha : SimA tl ga fa) : SimE tl (pN p ga) (eN g fa) := fun B n0 A env m pe s h =>
  (ha B n0 A env m pe s h).bind (fun _ _ _ _ _ hb => VR.base hb) fun a wa m1 s1 f1 w1 b1 r1 => by
    have h1 := h.step f1 w1 b1
    cases e : p a with
    | none => trivial
    | some v =>
      obtain ⟨w, m', e1, nx, r⟩ := o h1 (r1.base (Nat.zero_le _)) e
      rw [e1]
      exact relE_of h1 nx r
theorem sim_aN : SimA tl paN aN := fun B n0 A env m pe s h => relE_of h (.inl rfl) trivial
theorem below_of {v : PV} {w : Wd} (h : VR pe env B A b0 m v w) : Below m.cells.length v w := by
  cases v with
  | fr c =>
    obtain ⟨n, cl, e, _, _, h3, _⟩ := h
    intro n' e'
    rw [e] at e'
    cases e'
    exact h3.lt
  | _ => trivial
theorem bagA_sub (h : BagR B A m s) : ∀ k ∈ bagA B, k ∈ A := fun k hk => by
  cases B with
  | none => cases hk
  | some p =>
    obtain ⟨i, r⟩ := p
    rcases List.mem_cons.mp hk with e | e
    · rw [e]; exact h.2.1
    · rw [List.mem_singleton.mp e]; exact h.2.2.1
theorem BagR.setA {A' : List Nat} (h : BagR B A m s) (hs : ∀ k ∈ bagA B, k ∈ A → k ∈ A') : BagR B A' m s := by
  cases B with
  | none => trivial
  | some p =>
    obtain ⟨i, r⟩ := p
    exact ⟨h.1, hs _ (List.mem_cons_self) h.2.1, hs _ (List.mem_cons_of_mem _ List.mem_cons_self) h.2.2.1, h.2.2.2⟩
/-- more cells that none of the slots looks at -/
theorem SR.growA {A' : List Nat} (h : SR tl B n0 A env m pe s) (f : Fr (bagC B) m m') (w : WF m') (b : BagR B A m' s') (h1 : ∀ k ∈ A', k ∈ A ∨ m.cells.length ≤ k) (h2 : ∀ k ∈ A, k ∈ A') (h3 : ∀ k ∈ A', k < m'.cells.length) : SR tl B n0 A' env m' pe s' := by
  have hB := h.bag.sub
  have mv : ∀ k c, Has m k c → k ∉ A → Has m' k c ∧ k ∉ A' := fun k c hk hn => ⟨f.has hk fun z => hn (hB k z), fun z => by
    rcases h1 k z with z | z
    · exact hn z
    · have := hk.lt; omega⟩
  refine ⟨w, Nat.le_trans h.le f.le, h.len, fun i x e => ?_, h.bagv, fun i c e => ?_, h.dst, b.setA fun k _ hk => h2 k hk, h3, h.tab.fr f h.bag⟩
  · obtain ⟨w, e1, r⟩ := h.val i x e
    exact ⟨w, e1, r.mv mv⟩
  · obtain ⟨n, cl, e1, g1, g2, g3, g4, g5⟩ := h.own i c e
    exact ⟨n, cl, e1, h2 n g1, g2, g3, f.has g4 fun z => g3 (bagC_A z), g5.mv mv⟩
theorem RdfA.anti {A' : List Nat} (hs : ∀ k ∈ A', k ∈ A) : ∀ {x : List (Str × Wd)} {y : List (Str × PyData)}, RdfA m A x y → RdfA m A' x y
  | [], [], _ => trivial
  | (_, _) :: _, (_, _) :: _, ⟨h1, h2, h3⟩ => ⟨h1, h2.mv fun k c hk hn => ⟨hk, fun z => hn (hs k z)⟩, RdfA.anti hs h3⟩
  | [], _ :: _, h => h.elim
  | _ :: _, [], h => h.elim
theorem RelE.anti {α β : Type} {A' : List Nat} {rel : Nat → Mm → α → β → Prop} {r : PR α} {R : Rs β} (hs : ∀ k ∈ A', k ∈ A) (hb : ∀ k ∈ bagA B, k ∈ A') (h : RelE rel B A m r R) : RelE rel B A' m r R := by
  cases r with
  | ok v s' => obtain ⟨w, m', e, f, wf, b, r⟩ := h; exact ⟨w, m', e, f, wf, b.setA fun k hk _ => hb k hk, r⟩
  | exc x s' => obtain ⟨w, m', e, f, wf, b, r⟩ := h; exact ⟨w, m', e, f, wf, b.setA fun k hk _ => hb k hk, r.1, r.2.anti hs⟩
  | stuck => trivial
theorem sim_aC {g : Pe PV} {r : Pe (List PV)} {f : Em Wd} {fr : Em (List Wd)} (hg : SimE tl g f) (hr : SimA tl r fr) : SimA tl (paC g r) (aC f fr) := fun B n0 A env m pe s h =>
  (hg B n0 A env m pe s h).bind0 fun a wa m1 s1 f1 w1 b1 r1 => by
    have hgr : ∀ k ∈ grow A a wa, (k ∈ A ∨ m.cells.length ≤ k) ∧ k < m1.cells.length := fun k hk => by
      have old : k ∈ A → (k ∈ A ∨ m.cells.length ≤ k) ∧ k < m1.cells.length := fun z => ⟨.inl z, Nat.lt_of_lt_of_le (h.alt k z) f1.le⟩
      unfold grow at hk
      split at hk
      · obtain ⟨n, cl, e, g1, g2, g3, g4⟩ := r1
        cases e
        rcases List.mem_cons.mp hk with e | z
        · rw [e]; exact ⟨.inr g1, g3.lt⟩
        · exact old z
      · exact old hk
    have h1 : SR tl B n0 (grow A a wa) env m1 pe s1 := h.growA f1 w1 b1 (fun k hk => (hgr k hk).1) (grow_self a wa) fun k hk => (hgr k hk).2
    refine ((hr B n0 _ env m1 pe s1 h1).anti (grow_self a wa) (bagA_sub h.bag)).bind0 fun vs ws m2 s2 f2 w2 b2 r2 => ?_
    exact ⟨_, m2, rfl, .refl, w2, b2, m1, f1.le, f2, r1, below_of r1, r2⟩
end
end PD
set_option Elab.async false
set_option linter.all false
set_option maxRecDepth 100000
set_option maxHeartbeats 2000000
namespace PD
open PySem PySem.Spec PyProof.Rows L2 DL
/-! ### operators -/
def lstP : PV → Option (List PyData)
  | .d (.list xs) => some xs
  | .fr (.l xs) => some xs
  | .bo _ (.l xs) => some xs
  | _ => none
def tupP : PV → Option (List PyData)
  | .d (.tuple xs) => some xs
  | _ => none
def seqP : PV → Option (List PyData)
  | .d (.list xs) => some xs
  | .d (.tuple xs) => some xs
  | .fr (.l xs) => some xs
  | .bo _ (.l xs) => some xs
  | _ => none
def valP : PV → Option PyData
  | .d x => some x
  | .fr c => some c.toD
  | .bo _ c => some c.toD
  | .bag => none
def frz : PV → Option PyData
  | .d x => some x
  | .fr c => some c.toD
  | _ => none
section
variable {tl : List (Str × Str)} {B : Lo} {n0 b0 b1 : Nat} {A : List Nat} {env : DL.Env} {m m' m1 : Mm} {pe : PEnv} {s s' : Bg} {v : PV} {w : Wd} {vs : List PV} {ws : List Wd}
theorem RdC.dropA {n : Nat} {cl : Cell} {c : Co} (h : RdC m (n :: A) cl c) : RdC m A cl c := h.mv fun k c hk hn => ⟨hk, fun z => hn (List.mem_cons_of_mem _ z)⟩
theorem lst_ok (h : SR tl B n0 A env m pe s) (r : VR pe env B A b0 m v w) {xs : List PyData} (e : lstP v = some xs) : ∃ n ws, w = .ref n ∧ Has m n (.lst ws) ∧ RdsA m A ws xs := by
  unfold lstP at e
  split at e
  · cases e
    obtain ⟨n, ws, e1, h1, _, h2⟩ := RdA.lstI r
    exact ⟨n, ws, e1, h1, h2⟩
  · cases e
    obtain ⟨n, cl, e1, _, _, h3, h4⟩ := r
    cases cl with
    | lst ws => exact ⟨n, ws, e1, h3, h4.dropA⟩
    | _ => exact h4.elim
  · cases e
    obtain ⟨n, cl, e1, _, _, _, h3, h4⟩ := h.own _ _ r.1
    have e2 := r.2.symm.trans e1
    cases e2
    cases cl with
    | lst ws => exact ⟨n, ws, rfl, h3, h4⟩
    | _ => exact h4.elim
  · cases e
theorem tup_ok (r : VR pe env B A b0 m v w) {xs : List PyData} (e : tupP v = some xs) : ∃ ws, tupOf w = some ws ∧ RdsA m A ws xs := by
  unfold tupP at e
  split at e
  · cases e; exact RdA.tupI r
  · cases e
theorem seq_ok (h : SR tl B n0 A env m pe s) (r : VR pe env B A b0 m v w) {xs : List PyData} (e : seqP v = some xs) : ∃ ws, seqOf m w = some ws ∧ RdsA m A ws xs := by
  have key : ∀ {xs}, lstP v = some xs → ∃ ws, seqOf m w = some ws ∧ RdsA m A ws xs := fun e => by
    obtain ⟨n, ws, e1, h1, h2⟩ := lst_ok h r e
    subst e1
    exact ⟨ws, s_ref h1, h2⟩
  unfold seqP at e
  split at e
  · exact key e
  · obtain ⟨ws, e1, h2⟩ := tup_ok r (show tupP (.d (.tuple _)) = some _ from e)
    exact ⟨ws, tupOf_seq e1, h2⟩
  · exact key e
  · exact key e
  · cases e
theorem RdA.any (h : RdA m A w x) : RdA m [] w x := h.mv fun k c hk _ => ⟨hk, by simp⟩
theorem val_ok (h : SR tl B n0 A env m pe s) (r : VR pe env B A b0 m v w) {x : PyData} (e : valP v = some x) : RdA m [] w x := by
  have em : ∀ {A : List Nat} {cl : Cell} {c : Co}, RdC m A cl c → RdC m [] cl c := fun h => h.mv fun k c hk _ => ⟨hk, by simp⟩
  unfold valP at e
  split at e
  · cases e; exact RdA.any r
  · cases e
    obtain ⟨n, cl, e1, _, _, h3, h4⟩ := r
    subst e1
    exact .of h3 (by simp) (em h4)
  · cases e
    obtain ⟨n, cl, e1, _, _, _, h3, h4⟩ := h.own _ _ r.1
    have e2 := r.2.symm.trans e1
    cases e2
    exact .of h3 (by simp) (em h4)
  · cases e
theorem frz_ok (r : VR pe env B A b0 m v w) {x : PyData} (e : frz v = some x) : RdA m A w x := by
  unfold frz at e
  split at e
  · cases e; exact r
  · cases e
    obtain ⟨n, cl, e1, _, h2, h3, h4⟩ := r
    subst e1
    exact .of h3 h2 h4.dropA
  · cases e
theorem fr_new (h : SR tl B n0 A env m pe s) {cl : Cell} {c : Co} (r : RdC m A cl c) (hb : b0 ≤ m.cells.length) : VR pe env B A b0 (m.push cl) (.fr c) (.ref m.cells.length) :=
  ⟨_, cl, rfl, hb, fun z => Nat.lt_irrefl _ (h.alt _ z), has_push, r.mv fun k c hk hn => ⟨hk.push, fun z => by
    rcases List.mem_cons.mp z with e | z
    · have := hk.lt; omega
    · exact hn z⟩⟩
theorem nx_new {cl : Cell} {c : Co} (r : RdC m A cl c) : Nx m (m.push cl) := .inr ⟨cl, r.lt, rfl⟩
theorem vrs0 (r : VRs pe env B A b0 m [] ws) : ws = [] := by
  cases ws with
  | nil => rfl
  | cons _ _ => exact r.elim
theorem vrs1 (hB : ∀ k ∈ bagC B, k ∈ A) (r : VRs pe env B A b0 m [v] ws) : ∃ w, ws = [w] ∧ VR pe env B A b0 m v w := by
  cases ws with
  | nil => exact r.elim
  | cons w ws =>
    obtain ⟨r1, r2⟩ := r.cons_inv hB
    rw [vrs0 r2]
    exact ⟨w, rfl, r1⟩
theorem vrs2 (hB : ∀ k ∈ bagC B, k ∈ A) {v' : PV} (r : VRs pe env B A b0 m [v, v'] ws) : ∃ w w', ws = [w, w'] ∧ VR pe env B A b0 m v w ∧ VR pe env B A b0 m v' w' := by
  cases ws with
  | nil => exact r.elim
  | cons w ws =>
    obtain ⟨r1, r2⟩ := r.cons_inv hB
    obtain ⟨w', e, r3⟩ := vrs1 hB r2
    subst e
    exact ⟨w, w', rfl, r1, r3⟩
end
/-- an answer that is data, the memory being left as it was -/
theorem op_d {pe : PEnv} {env : DL.Env} {B : Lo} {A : List Nat} {m : Mm} {x : PyData} {w : Wd} (o : Option (Wd × Mm)) (e : o = some (w, m)) (r : RdA m A w x) : ∃ w m', o = some (w, m') ∧ Nx m m' ∧ VR pe env B A m.cells.length m' (.d x) w := ⟨w, m, e, .inl rfl, r⟩
def pInt (C : Int → Int → Bool) (g : Int → Int → PyData) : PV → PV → Option PV
  | .d (.int i), .d (.int j) => if C i j = true then some (.d (g i j)) else none
  | _, _ => none
theorem op_int {C : Int → Int → Bool} {g : Int → Int → PyData} (hg : ∀ i j, okD (g i j) = true) : Op2Ok (intO C g) (pInt C g) := fun {tl B n0 A env m pe s a b wa wb v} h ra rb e => by
  unfold pInt at e
  split at e
  · rename_i i j
    rw [RdA.flat ra rfl, RdA.flat rb rfl]
    split at e
    · rename_i hc
      cases e
      exact op_d _ (show (if C i j = true then some (Wd.d (g i j), m) else none) = _ by rw [if_pos hc]) (.d (hg i j))
    · cases e
  · cases e
def pSub := pInt (fun _ _ => true) fun i j => .int (i - j)
def pFdiv := pInt (fun _ j => decide (0 < j ∧ j < 1073741824)) fun i j => .int (i / j)
def pMod := pInt (fun _ j => decide (0 < j)) fun i j => .int (i % j)
def pPow := pInt (fun i j => decide (0 ≤ j ∧ j ≤ 1000000 ∧ i.natAbs < 2 ^ 64)) fun i j => .int (i ^ j.toNat)
def pAnd := pInt (fun _ _ => true) fun i j => .int (Builtin.bitAnd i j)
def pShr := pInt (fun _ j => decide (0 ≤ j)) fun i j => .int (i / 2 ^ j.toNat)
def pLt := pInt (fun _ _ => true) fun i j => .bool (decide (i < j))
def pLe := pInt (fun _ _ => true) fun i j => .bool (decide (i ≤ j))
def pGt := pInt (fun _ _ => true) fun i j => .bool (decide (j < i))
def pGe := pInt (fun _ _ => true) fun i j => .bool (decide (j ≤ i))
theorem op_sub : Op2Ok subO pSub := op_int fun _ _ => rfl
theorem op_fdiv : Op2Ok fdivO pFdiv := op_int fun _ _ => rfl
theorem op_mod : Op2Ok modO pMod := op_int fun _ _ => rfl
theorem op_pow : Op2Ok powO pPow := op_int fun _ _ => rfl
theorem op_and : Op2Ok andO pAnd := op_int fun _ _ => rfl
theorem op_shr : Op2Ok shrO pShr := op_int fun _ _ => rfl
theorem op_lt : Op2Ok ltO pLt := op_int fun _ _ => rfl
theorem op_le : Op2Ok leO pLe := op_int fun _ _ => rfl
theorem op_gt : Op2Ok gtO pGt := op_int fun _ _ => rfl
theorem op_ge : Op2Ok geO pGe := op_int fun _ _ => rfl
def pNeg : PV → Option PV
  | .d (.int i) => some (.d (.int (-i)))
  | _ => none
theorem op_neg : Op1Ok negO pNeg := fun {tl B n0 A env m pe s a wa v} h ra e => by
  unfold pNeg at e
  split at e
  · rw [RdA.flat ra rfl]; cases e; exact op_d _ rfl (.d rfl)
  · cases e
def pAdd (a b : PV) : Option PV := match a, b with
  | .d (.int i), .d (.int j) => some (.d (.int (i + j)))
  | .d (.str x), .d (.str y) => if x.length + y.length ≤ LIM then some (.d (.str (x ++ y))) else none
  | a, b => match lstP a, lstP b with
    | some xs, some ys => if xs.length + ys.length ≤ LIM then some (.fr (.l (xs ++ ys))) else none
    | _, _ => match tupP a, tupP b with
      | some xs, some ys => if xs.length + ys.length ≤ LIM then some (.d (.tuple (xs ++ ys))) else none
      | _, _ => none
theorem addO_tup {a b : Wd} {m : Mm} {xs ys : List Wd} (ha : tupOf a = some xs) (hb : tupOf b = some ys) (hl : xs.length + ys.length ≤ LIM) : addO a b m = some (mkTup (xs ++ ys), m) := by
  have g : ∀ (o : Option (Wd × Mm)), o = (match tupOf a, tupOf b with
    | some xs, some ys => if xs.length + ys.length ≤ LIM then some (mkTup (xs ++ ys), m) else none
    | _, _ => none) → o = some (mkTup (xs ++ ys), m) := fun o e => by
    rw [e, ha, hb]
    exact if_pos hl
  refine g _ ?_
  cases a with
  | d x => cases x with
    | tuple _ => rfl
    | _ => cases ha
  | tup _ => rfl
  | _ => cases ha
theorem op_add : Op2Ok addO pAdd := fun {tl B n0 A env m pe s a b wa wb v} h ra rb e => by
  unfold pAdd at e
  split at e
  · rw [RdA.flat ra rfl, RdA.flat rb rfl]; cases e; exact op_d _ rfl (.d rfl)
  · rename_i x y
    rw [RdA.flat ra rfl, RdA.flat rb rfl]
    split at e
    · rename_i hl
      cases e
      exact op_d _ (show (if x.length + y.length ≤ LIM then some (Wd.d (.str (x ++ y)), m) else none) = _ by rw [if_pos hl]) (.d rfl)
    · cases e
  · split at e
    · rename_i xs ys e1 e2
      obtain ⟨n, ws, q1, h1, r1⟩ := lst_ok h ra e1
      obtain ⟨k, us, q2, h2, r2⟩ := lst_ok h rb e2
      subst q1 q2
      split at e
      · rename_i hl
        cases e
        have r : RdC m A (.lst (ws ++ us)) (.l (xs ++ ys)) := r1.append r2
        refine ⟨_, _, ?_, nx_new r, fr_new h r (Nat.le_refl _)⟩
        show (match m.cells[n]?, m.cells[k]? with
          | some (.lst xs), some (.lst ys) => if xs.length + ys.length ≤ LIM then some (Wd.ref m.cells.length, m.push (.lst (xs ++ ys))) else none
          | _, _ => none) = _
        rw [show m.cells[n]? = some (.lst ws) from h1, show m.cells[k]? = some (.lst us) from h2]
        exact if_pos (by rw [r1.length, r2.length]; exact hl)
      · cases e
    · split at e
      · rename_i xs ys e1 e2
        obtain ⟨ws, q1, r1⟩ := tup_ok ra e1
        obtain ⟨us, q2, r2⟩ := tup_ok rb e2
        split at e
        · rename_i hl
          cases e
          exact op_d _ (addO_tup q1 q2 (by rw [r1.length, r2.length]; exact hl)) (rdA_tup (r1.append r2))
        · cases e
      · cases e
def pIadd (a b : PV) : Option PV := match a, b with
  | .d (.int i), .d (.int j) => some (.d (.int (i + j)))
  | .d (.str x), .d (.str y) => if x.length + y.length ≤ LIM then some (.d (.str (x ++ y))) else none
  | _, _ => none
theorem op_iadd : Op2Ok iaddO pIadd := fun {tl B n0 A env m pe s a b wa wb v} h ra rb e => by
  unfold pIadd at e
  split at e
  · rw [RdA.flat ra rfl, RdA.flat rb rfl]; cases e; exact op_d _ rfl (.d rfl)
  · rename_i x y
    rw [RdA.flat ra rfl, RdA.flat rb rfl]
    split at e
    · rename_i hl
      cases e
      exact op_d _ (show (if x.length + y.length ≤ LIM then some (Wd.d (.str (x ++ y)), m) else none) = _ by rw [if_pos hl]) (.d rfl)
    · cases e
  · cases e
theorem RdsA.rep {m : Mm} {A : List Nat} {ws : List Wd} {xs : List PyData} (r : RdsA m A ws xs) : ∀ n : Nat, RdsA m A (List.replicate n ws).flatten (List.replicate n xs).flatten
  | 0 => .nil
  | n + 1 => by
    rw [List.replicate_succ, List.replicate_succ, List.flatten_cons, List.flatten_cons]
    exact r.append (RdsA.rep r n)
def pMul (a b : PV) : Option PV := match a, b with
  | .d (.int i), .d (.int j) => if (small64 i || small64 j) = true then some (.d (.int (i * j))) else none
  | a, .d (.int k) => match lstP a with
    | some xs => if (-(2 ^ 63) ≤ k ∧ k < 2 ^ 63) ∧ xs.length * k.toNat ≤ LIM then some (.fr (.l (List.replicate k.toNat xs).flatten)) else none
    | _ => none
  | _, _ => none
theorem op_mul : Op2Ok mulO pMul := fun {tl B n0 A env m pe s a b wa wb v} h ra rb e => by
  unfold pMul at e
  split at e
  · rename_i i j
    rw [RdA.flat ra rfl, RdA.flat rb rfl]
    split at e
    · rename_i hl
      cases e
      exact op_d _ (show (if (small64 i || small64 j) = true then some (Wd.d (.int (i * j)), m) else none) = _ by rw [if_pos hl]) (.d rfl)
    · cases e
  · rename_i k _
    rw [RdA.flat rb rfl]
    split at e
    · rename_i xs e1
      obtain ⟨n, ws, q1, h1, r1⟩ := lst_ok h ra e1
      subst q1
      split at e
      · rename_i hl
        cases e
        have r : RdC m A (.lst (List.replicate k.toNat ws).flatten) (.l (List.replicate k.toNat xs).flatten) := r1.rep _
        refine ⟨_, _, ?_, nx_new r, fr_new h r (Nat.le_refl _)⟩
        show (match m.cells[n]? with
          | some (.lst xs) => if (-(2 ^ 63) ≤ k ∧ k < 2 ^ 63) ∧ xs.length * k.toNat ≤ LIM then some (Wd.ref m.cells.length, m.push (.lst (List.replicate k.toNat xs).flatten)) else none
          | _ => none) = _
        rw [show m.cells[n]? = some (.lst ws) from h1]
        exact if_pos (by rw [r1.length]; exact hl)
      · cases e
    · cases e
  · cases e
/-! comparisons -/
theorem toP_flat {m : Mm} {A : List Nat} {w : Wd} {x : PyData} (h : RdA m A w x) (hx : flatD x = true) : toP m 64 w = some x := by
  rw [h.flat hx]; rfl
theorem toP_rd {m : Mm} {A : List Nat} : ∀ (k : Nat) {w : Wd} {x : PyData}, RdA m A w x → x.canLay0 = true → x.depth ≤ k → toP m k w = some x := by
  intro k
  induction k with
  | zero =>
    intro w x h hc hd
    cases h with
    | d h => exact toP_d
    | tup _ => simp [PyData.depth] at hd
    | lst _ _ _ => simp [PyData.depth] at hd
    | dct _ _ _ => simp [PyData.canLay0] at hc
  | succ k ih =>
    have all : ∀ {ws : List Wd} {xs : List PyData}, RdsA m A ws xs → PyData.canLayAll0 xs = true → PyData.depthAll xs ≤ k → seqO (ws.map (toP m k)) = some xs := by
      intro ws
      induction ws with
      | nil => intro xs h _ _; cases h; rfl
      | cons w ws ihw =>
        intro xs h hc hd
        cases h with
        | cons h hs =>
          rw [PyData.canLayAll0, Bool.and_eq_true] at hc
          rw [PyData.depthAll] at hd
          rw [List.map_cons, ih h hc.1 (by omega)]
          show (seqO (ws.map (toP m k))).map _ = _
          rw [ihw hs hc.2 (by omega)]
          rfl
    intro w x h hc hd
    cases h with
    | d h => exact toP_d
    | @tup ws ds hs =>
      rw [PyData.canLay0] at hc
      rw [PyData.depth] at hd
      show (seqO (ws.map (toP m k))).map PyData.tuple = _
      rw [all hs hc (by omega)]
      rfl
    | @lst n ws ds hh _ hs =>
      rw [PyData.canLay0] at hc
      rw [PyData.depth] at hd
      show (match m.cells[n]? with
        | some (.lst xs) => (seqO (xs.map (toP m k))).map PyData.list
        | _ => none) = _
      rw [show m.cells[n]? = some (.lst ws) from hh]
      show (seqO (ws.map (toP m k))).map PyData.list = _
      rw [all hs hc (by omega)]
      rfl
    | dct _ _ _ => simp [PyData.canLay0] at hc
theorem scal_flat {x y : PyData} (h : scalD x y = true) : flatD x = true ∧ flatD y = true := by
  cases x <;> cases y <;> first | exact ⟨rfl, rfl⟩ | cases h
def pEqB (a b : PV) : Option Bool := match valP a, valP b with
  | some x, some y => if (scalD x y || (SeqAt.shaped x && SeqAt.shaped y)) = true then some (PyData.eqv x y) else none
  | _, _ => none
def pEq (a b : PV) : Option PV := (pEqB a b).map fun k => .d (.bool k)
def pNe (a b : PV) : Option PV := (pEqB a b).map fun k => .d (.bool !k)
theorem eqB_ok {tl : List (Str × Str)} {B : Lo} {n0 : Nat} {A : List Nat} {env : DL.Env} {m : Mm} {pe : PEnv} {s : Bg} {a b : PV} {wa wb : Wd} {k : Bool} (h : SR tl B n0 A env m pe s) (ra : VR pe env B A 0 m a wa) (rb : VR pe env B A 0 m b wb) (e : pEqB a b = some k) : eqB wa wb m = some k := by
  unfold pEqB at e
  split at e
  · rename_i x y e1 e2
    have r1 := val_ok h ra e1
    have r2 := val_ok h rb e2
    split at e
    · rename_i hs
      cases e
      have hs' := hs
      rw [Bool.or_eq_true, Bool.and_eq_true] at hs'
      have t1 : toP m 64 wa = some x := by
        rcases hs' with z | z
        · exact toP_flat r1 (scal_flat z).1
        · exact toP_rd 64 r1 (SeqAt.canLay_of_shaped z.1) (SeqAt.depth_of_shaped z.1)
      have t2 : toP m 64 wb = some y := by
        rcases hs' with z | z
        · exact toP_flat r2 (scal_flat z).2
        · exact toP_rd 64 r2 (SeqAt.canLay_of_shaped z.2) (SeqAt.depth_of_shaped z.2)
      unfold eqB
      rw [t1, t2]
      exact if_pos hs
    · cases e
  · cases e
theorem op_eq : Op2Ok eqO pEq := fun {tl B n0 A env m pe s a b wa wb v} h ra rb e => by
  obtain ⟨k, e1, e2⟩ := Option.map_eq_some_iff.mp e
  subst e2
  exact op_d _ (by unfold eqO; rw [eqB_ok h ra rb e1]) (.d rfl)
theorem op_ne : Op2Ok neO pNe := fun {tl B n0 A env m pe s a b wa wb v} h ra rb e => by
  obtain ⟨k, e1, e2⟩ := Option.map_eq_some_iff.mp e
  subst e2
  exact op_d _ (by unfold neO; rw [eqB_ok h ra rb e1]) (.d rfl)
def pInB (x y : PV) : Option Bool := match x, y with
  | .d (.str a), .d (.str z) => match a.cps.toList with
    | [c] => some (decide (c ∈ z.cps.toList))
    | _ => none
  | .d x, y => match seqP y with
    | some ys => if (flatD x && ys.all flatD) = true then some (ys.any fun z => PyData.eqv z x) else none
    | none => none
  | _, _ => none
def pIn (a b : PV) : Option PV := (pInB a b).map fun k => .d (.bool k)
def pNi (a b : PV) : Option PV := (pInB a b).map fun k => .d (.bool !k)
theorem RdsA.flat {m : Mm} {A : List Nat} : ∀ {ws : List Wd} {ds : List PyData}, RdsA m A ws ds → ds.all flatD = true → ws = ds.map .d
  | _, _, .nil, _ => rfl
  | _, _, .cons h hs, e => by
    rw [List.all_cons, Bool.and_eq_true] at e
    rw [h.flat e.1, RdsA.flat hs e.2]
    rfl
theorem inB_ok {tl : List (Str × Str)} {B : Lo} {n0 : Nat} {A : List Nat} {env : DL.Env} {m : Mm} {pe : PEnv} {s : Bg} {a b : PV} {wa wb : Wd} {k : Bool} (h : SR tl B n0 A env m pe s) (ra : VR pe env B A 0 m a wa) (rb : VR pe env B A 0 m b wb) (e : pInB a b = some k) : inB wa wb m = some k := by
  unfold pInB at e
  split at e
  · rw [RdA.flat ra rfl, RdA.flat rb rfl]
    exact e
  · rename_i x hne
    split at e
    · rename_i ys e1
      obtain ⟨ws, q, r⟩ := seq_ok h rb e1
      split at e
      · rename_i hf
        cases e
        rw [Bool.and_eq_true] at hf
        have ex := RdA.flat ra hf.1
        subst ex
        have ew := r.flat hf.2
        subst ew
        have g : inB (.d x) wb m = (match seqOf m wb with
          | some ys => if (flatW (.d x) && ys.all flatW) = true then some (ys.any fun z => eqvW z (.d x)) else none
          | none => none) := by
          unfold inB
          split
          · rename_i a' z' h1
            cases h1
            cases q
          · rfl
        rw [g, q]
        have h2 : (flatW (.d x) && (ys.map Wd.d).all flatW) = true := by
          rw [Bool.and_eq_true, List.all_map]
          exact ⟨hf.1, hf.2⟩
        simp only [h2, if_true, List.any_map]
        rfl
      · cases e
    · cases e
  · cases e
theorem op_in : Op2Ok inO pIn := fun {tl B n0 A env m pe s a b wa wb v} h ra rb e => by
  obtain ⟨k, e1, e2⟩ := Option.map_eq_some_iff.mp e
  subst e2
  exact op_d _ (by unfold inO; rw [inB_ok h ra rb e1]) (.d rfl)
theorem op_ni : Op2Ok niO pNi := fun {tl B n0 A env m pe s a b wa wb v} h ra rb e => by
  obtain ⟨k, e1, e2⟩ := Option.map_eq_some_iff.mp e
  subst e2
  exact op_d _ (by unfold niO; rw [inB_ok h ra rb e1]) (.d rfl)
def noneP : PV → Option Bool
  | .d .none => some true
  | .d _ => some false
  | .fr _ => some false
  | .bo _ _ => some false
  | .bag => none
def pIsN (x y : PV) : Option PV := match y with
  | .d .none => (noneP x).map fun k => .d (.bool k)
  | _ => none
def pNn (x y : PV) : Option PV := match y with
  | .d .none => (noneP x).map fun k => .d (.bool !k)
  | _ => none
theorem none_ok {tl : List (Str × Str)} {B : Lo} {n0 : Nat} {A : List Nat} {env : DL.Env} {m : Mm} {pe : PEnv} {s : Bg} {a : PV} {wa : Wd} {k : Bool} (h : SR tl B n0 A env m pe s) (ra : VR pe env B A 0 m a wa) (e : noneP a = some k) : isNoneW wa = some k := by
  cases a with
  | d x =>
    cases ra with
    | d h => cases x <;> (cases e; rfl)
    | tup _ => cases e; rfl
    | lst _ _ _ => cases e; rfl
    | dct _ _ _ => cases e; rfl
  | fr c =>
    obtain ⟨n, cl, e1, _⟩ := ra
    subst e1
    cases e; rfl
  | bo i c =>
    obtain ⟨n, cl, e1, _⟩ := h.own _ _ ra.1
    have e2 := ra.2.symm.trans e1
    cases e2
    cases e; rfl
  | bag => cases e
theorem op_isN : Op2Ok isNO pIsN := fun {tl B n0 A env m pe s a b wa wb v} h ra rb e => by
  unfold pIsN at e
  split at e
  · obtain ⟨k, e1, e2⟩ := Option.map_eq_some_iff.mp e
    subst e2
    rw [RdA.flat rb rfl]
    exact op_d _ (by unfold isNO; simp only [none_ok h ra e1]) (.d rfl)
  · cases e
theorem op_nn : Op2Ok nnO pNn := fun {tl B n0 A env m pe s a b wa wb v} h ra rb e => by
  unfold pNn at e
  split at e
  · obtain ⟨k, e1, e2⟩ := Option.map_eq_some_iff.mp e
    subst e2
    rw [RdA.flat rb rfl]
    exact op_d _ (by unfold nnO; simp only [none_ok h ra e1]) (.d rfl)
  · cases e
/-! items, slices -/
def pIx (x y : PV) : Option PV := match x, y with
  | .d (.str z), .d (.int i) => if z.length ≤ LIM then (atI z.cps.toList i).map fun c => .d (.str ⟨#[c]⟩) else none
  | x, .d (.int i) => match seqP x with
    | some xs => (atI xs i).map .d
    | none => none
  | _, _ => none
theorem atI_get {α : Type} {xs : List α} {i : Int} {x : α} (h : atI xs i = some x) : ∃ k, ixN xs.length i = some k ∧ xs[k]? = some x := Option.bind_eq_some_iff.mp h
theorem op_ix : Op2Ok ixO pIx := fun {tl B n0 A env m pe s a b wa wb v} h ra rb e => by
  unfold pIx at e
  split at e
  · rename_i z i
    rw [RdA.flat ra rfl, RdA.flat rb rfl]
    split at e
    · rename_i hl
      obtain ⟨c, e1, e2⟩ := Option.map_eq_some_iff.mp e
      subst e2
      refine op_d (w := .d (.str ⟨#[c]⟩)) _ ?_ (.d rfl)
      show (if z.length ≤ LIM then (match atI z.cps.toList i with
        | some c => some (Wd.d (.str ⟨#[c]⟩), m)
        | none => none) else none) = _
      rw [if_pos hl, e1]
    · cases e
  · rename_i i hne
    rw [RdA.flat rb rfl]
    split at e
    · rename_i xs e1
      obtain ⟨x, e2, e3⟩ := Option.map_eq_some_iff.mp e
      subst e3
      obtain ⟨ws, q, r⟩ := seq_ok h ra e1
      obtain ⟨k, q1, q2⟩ := atI_get e2
      obtain ⟨w, q3, r3⟩ := r.get q2
      refine op_d (w := w) _ ?_ r3
      have q4 : atI ws i = some w := by
        unfold atI
        rw [r.length, q1]
        exact q3
      have g : ixO wa (.d (.int i)) m = (match seqOf m wa with
        | some xs => match atI xs i with
          | some w => some (w, m)
          | none => none
        | none => none) := by
        unfold ixO
        split
        · cases q
        · rename_i h1
          cases h1
          rfl
        · rename_i h1 h2
          exact absurd rfl (h1 i)
      rw [g, q]
      simp only [q4]
    · cases e
  · cases e
def cutL {α : Type} (xs : List α) (lo hi : Option Int) : List α := (xs.drop (HT.sIx xs.length 0 lo)).take (HT.sIx xs.length xs.length hi - HT.sIx xs.length 0 lo)
theorem RdsA.cutL {m : Mm} {A : List Nat} {ws : List Wd} {xs : List PyData} (r : RdsA m A ws xs) (lo hi : Option Int) : RdsA m A (cutW ws lo hi) (cutL xs lo hi) := by
  unfold PD.cutL cutW
  rw [r.length]
  exact (r.drop _).take _
def pCut (v : PV) (lo hi : Option Int) : Option PV := match v with
  | .d (.str z) => if z.length ≤ LIM then some (.d (.str (cutS z lo hi))) else none
  | v => match lstP v with
    | some xs => some (.fr (.l (cutL xs lo hi)))
    | none => match tupP v with
      | some xs => some (.d (.tuple (cutL xs lo hi)))
      | none => none
theorem slO_tup {w : Wd} {m : Mm} {xs : List Wd} {lo hi : Option Int} (h : tupOf w = some xs) : slO w lo hi m = some (mkTup (cutW xs lo hi), m) := by
  cases w with
  | d x => cases x with
    | tuple _ => cases h; rfl
    | _ => cases h
  | tup _ => cases h; rfl
  | _ => cases h
theorem cut_ok {tl : List (Str × Str)} {B : Lo} {n0 : Nat} {A : List Nat} {env : DL.Env} {m : Mm} {pe : PEnv} {s : Bg} {a : PV} {wa : Wd} {v : PV} {lo hi : Option Int} (h : SR tl B n0 A env m pe s) (ra : VR pe env B A 0 m a wa) (e : pCut a lo hi = some v) : ∃ w m', slO wa lo hi m = some (w, m') ∧ Nx m m' ∧ VR pe env B A m.cells.length m' v w := by
  unfold pCut at e
  split at e
  · rename_i z
    rw [RdA.flat ra rfl]
    split at e
    · rename_i hl
      cases e
      exact op_d _ (show (if z.length ≤ LIM then some (Wd.d (.str (cutS z lo hi)), m) else none) = _ by rw [if_pos hl]) (.d rfl)
    · cases e
  · split at e
    · rename_i xs e1
      cases e
      obtain ⟨n, ws, q1, h1, r1⟩ := lst_ok h ra e1
      subst q1
      have r : RdC m A (.lst (cutW ws lo hi)) (.l (cutL xs lo hi)) := r1.cutL lo hi
      refine ⟨_, _, ?_, nx_new r, fr_new h r (Nat.le_refl _)⟩
      show (match m.cells[n]? with
        | some (.lst xs) => some (Wd.ref m.cells.length, m.push (.lst (cutW xs lo hi)))
        | _ => none) = _
      rw [show m.cells[n]? = some (.lst ws) from h1]
    · split at e
      · rename_i xs e1
        cases e
        obtain ⟨ws, q1, r1⟩ := tup_ok ra e1
        exact op_d _ (slO_tup q1) (rdA_tup (r1.cutL lo hi))
      · cases e
/-! displays, built-in functions -/
def frzs : List PV → Option (List PyData)
  | [] => some []
  | v :: vs => match frz v, frzs vs with
    | some x, some xs => some (x :: xs)
    | _, _ => none
theorem frzs_ok {pe : PEnv} {env : DL.Env} {B : Lo} {A : List Nat} {m : Mm} (hB : ∀ k ∈ bagC B, k ∈ A) : ∀ {vs : List PV} {ws : List Wd} {xs : List PyData} {b0 : Nat}, VRs pe env B A b0 m vs ws → frzs vs = some xs → RdsA m A ws xs
  | [], [], xs, b0, _, e => by cases e; exact .nil
  | v :: vs, w :: ws, xs, b0, r, e => by
    obtain ⟨r1, r2⟩ := r.cons_inv hB
    unfold frzs at e
    split at e
    · rename_i x xs' e1 e2
      cases e
      exact .cons (frz_ok r1 e1) (frzs_ok hB r2 e2)
    · cases e
  | [], _ :: _, _, _, r, _ => r.elim
  | _ :: _, [], _, _, r, _ => r.elim
def pTup (vs : List PV) : Option PV := match frzs vs with
  | some xs => if xs.length ≤ LIM then some (.d (.tuple xs)) else none
  | none => none
def pLst (vs : List PV) : Option PV := match frzs vs with
  | some xs => if xs.length ≤ LIM then some (.fr (.l xs)) else none
  | none => none
theorem op_tup : OpNOk tupO pTup := fun {tl B n0 A env m pe s vs ws v} h r e => by
  unfold pTup at e
  split at e
  · rename_i xs e1
    have r1 := frzs_ok h.bag.sub r e1
    split at e
    · rename_i hl
      cases e
      exact op_d _ (by unfold tupO; rw [if_pos (by rw [r1.length]; exact hl)]) (rdA_tup r1)
    · cases e
  · cases e
theorem op_lst : OpNOk lstO pLst := fun {tl B n0 A env m pe s vs ws v} h r e => by
  unfold pLst at e
  split at e
  · rename_i xs e1
    have r1 := frzs_ok h.bag.sub r e1
    split at e
    · rename_i hl
      cases e
      have r2 : RdC m A (.lst ws) (.l xs) := r1
      exact ⟨_, _, by unfold lstO; rw [if_pos (by rw [r1.length]; exact hl)], nx_new r2, fr_new h r2 (Nat.le_refl _)⟩
    · cases e
  · cases e
def pLen (vs : List PV) : Option PV := match vs with
  | [.d (.str x)] => if x.length ≤ LIM then some (.d (.int x.length)) else none
  | [v] => match seqP v with
    | some xs => some (.d (.int xs.length))
    | none => match v with
      | .fr (.k kvs) => some (.d (.int kvs.length))
      | .bo _ (.k kvs) => some (.d (.int kvs.length))
      | .d (.dict kvs) => some (.d (.int kvs.length))
      | _ => none
  | _ => none
theorem lenO_seq {m : Mm} {w : Wd} {xs : List Wd} (h : seqOf m w = some xs) : lenO [w] m = some (.d (.int xs.length), m) := by
  cases w with
  | d x => cases x with
    | tuple ds => cases h; rfl
    | _ => cases h
  | ref n =>
    have h' : (match m.cells[n]? with
      | some (.lst xs) => some xs
      | _ => none) = some xs := h
    show (match m.cells[n]? with
    | some (.lst xs) => some (Wd.d (.int xs.length), m)
    | some (.dct kvs) => some (.d (.int kvs.length), m)
    | _ => none) = _
    split at h'
    · rename_i hh
      cases h'
      rw [hh]
    · cases h'
  | tup ws => cases h; rfl
  | rol ws => cases h; rfl
  | v _ => cases h
theorem lenO_dct {m : Mm} {n : Nat} {kws : List (PyData × Wd)} (h : Has m n (.dct kws)) : lenO [.ref n] m = some (.d (.int kws.length), m) := by
  show (match m.cells[n]? with
    | some (.lst xs) => some (Wd.d (.int xs.length), m)
    | some (.dct kvs) => some (.d (.int kvs.length), m)
    | _ => none) = _
  rw [show m.cells[n]? = some (.dct kws) from h]
theorem op_len : OpNOk lenO pLen := fun {tl B n0 A env m pe s vs ws v} h r e => by
  unfold pLen at e
  split at e
  · rename_i x
    obtain ⟨w, q, r1⟩ := vrs1 h.bag.sub r
    subst q
    rw [RdA.flat r1 rfl]
    split at e
    · rename_i hl
      cases e
      exact op_d _ (show (if x.length ≤ LIM then some (Wd.d (.int x.length), m) else none) = _ by rw [if_pos hl]) (.d rfl)
    · cases e
  · rename_i v0 _
    obtain ⟨w, q, r1⟩ := vrs1 h.bag.sub r
    subst q
    split at e
    · rename_i xs e1
      cases e
      obtain ⟨ws, q1, r2⟩ := seq_ok h r1 e1
      exact op_d _ (by rw [lenO_seq q1, r2.length]) (.d rfl)
    · split at e
      · cases e
        obtain ⟨n, cl, e1, _, _, h3, h4⟩ := r1
        subst e1
        cases cl with
        | dct kws => exact op_d _ (by rw [lenO_dct h3, RdkA.length h4]) (.d rfl)
        | _ => exact h4.elim
      · cases e
        obtain ⟨n, cl, e1, _, _, _, h3, h4⟩ := h.own _ _ r1.1
        have e2 := r1.2.symm.trans e1
        cases e2
        cases cl with
        | dct kws => exact op_d _ (by rw [lenO_dct h3, RdkA.length h4]) (.d rfl)
        | _ => exact h4.elim
      · cases e
        cases r1 with
        | d h => cases h
        | dct hh hn hs => exact op_d _ (by rw [lenO_dct hh, RdkA.length hs]) (.d rfl)
      · cases e
  · cases e
def pAbs (vs : List PV) : Option PV := match vs with
  | [.d (.int i)] => some (.d (.int (if i < 0 then -i else i)))
  | _ => none
theorem op_abs : OpNOk absO pAbs := fun {tl B n0 A env m pe s vs ws v} h r e => by
  unfold pAbs at e
  split at e
  · obtain ⟨w, q, r1⟩ := vrs1 h.bag.sub r
    subst q
    rw [RdA.flat r1 rfl]
    cases e
    exact op_d _ rfl (.d rfl)
  · cases e
def pInt1 (vs : List PV) : Option PV := match vs with
  | [.d (.int i)] => some (.d (.int i))
  | [.d (.bool b)] => some (.d (.int (if b then 1 else 0)))
  | _ => none
theorem op_int1 : OpNOk intO1 pInt1 := fun {tl B n0 A env m pe s vs ws v} h r e => by
  unfold pInt1 at e
  split at e
  · obtain ⟨w, q, r1⟩ := vrs1 h.bag.sub r
    subst q
    rw [RdA.flat r1 rfl]
    cases e
    exact op_d _ rfl (.d rfl)
  · obtain ⟨w, q, r1⟩ := vrs1 h.bag.sub r
    subst q
    rw [RdA.flat r1 rfl]
    cases e
    exact op_d _ rfl (.d rfl)
  · cases e
def pMin2 (vs : List PV) : Option PV := match vs with
  | [.d (.int i), .d (.int j)] => some (.d (.int (if j < i then j else i)))
  | _ => none
theorem op_min2 : OpNOk minO2 pMin2 := fun {tl B n0 A env m pe s vs ws v} h r e => by
  unfold pMin2 at e
  split at e
  · obtain ⟨w, w', q, r1, r2⟩ := vrs2 h.bag.sub r
    subst q
    rw [RdA.flat r1 rfl, RdA.flat r2 rfl]
    cases e
    exact op_d _ rfl (.d rfl)
  · cases e
def pInt2 (vs : List PV) : Option PV := match vs with
  | [.d (.str x), .d (.int b)] => if b = 2 ∧ bitsB x = true then some (.d (.int ((Bx.bitNum x.cps.toList : Nat) : Int))) else none
  | _ => none
theorem op_int2 : OpNOk intO2 pInt2 := fun {tl B n0 A env m pe s vs ws v} h r e => by
  unfold pInt2 at e
  split at e
  · rename_i x b
    obtain ⟨w, w', q, r1, r2⟩ := vrs2 h.bag.sub r
    subst q
    rw [RdA.flat r1 rfl, RdA.flat r2 rfl]
    split at e
    · rename_i hl
      cases e
      exact op_d _ (show (if b = 2 ∧ bitsB x = true then some (Wd.d (.int ((Bx.bitNum x.cps.toList : Nat) : Int)), m) else none) = _ by rw [if_pos hl]) (.d rfl)
    · cases e
  · cases e
def pList (vs : List PV) : Option PV := match vs with
  | [v] => (seqP v).map fun xs => .fr (.l xs)
  | _ => none
theorem op_list : OpNOk listO pList := fun {tl B n0 A env m pe s vs ws v} h r e => by
  unfold pList at e
  split at e
  · obtain ⟨xs, e1, e2⟩ := Option.map_eq_some_iff.mp e
    subst e2
    obtain ⟨w, q, r1⟩ := vrs1 h.bag.sub r
    subst q
    obtain ⟨us, q1, r2⟩ := seq_ok h r1 e1
    have r3 : RdC m A (.lst us) (.l xs) := r2
    exact ⟨_, _, by unfold listO; simp only [q1], nx_new r3, fr_new h r3 (Nat.le_refl _)⟩
  · cases e
def pTuple (vs : List PV) : Option PV := match vs with
  | [v] => (seqP v).map fun xs => .d (.tuple xs)
  | _ => none
theorem op_tuple : OpNOk tupleO pTuple := fun {tl B n0 A env m pe s vs ws v} h r e => by
  unfold pTuple at e
  split at e
  · obtain ⟨xs, e1, e2⟩ := Option.map_eq_some_iff.mp e
    subst e2
    obtain ⟨w, q, r1⟩ := vrs1 h.bag.sub r
    subst q
    obtain ⟨us, q1, r2⟩ := seq_ok h r1 e1
    exact op_d _ (by unfold tupleO; simp only [q1]) (rdA_tup r2)
  · cases e
def boolsP : List PyData → Option (List Bool)
  | [] => some []
  | .bool b :: r => (boolsP r).map (b :: ·)
  | _ :: _ => none
theorem bools_ok {m : Mm} {A : List Nat} : ∀ {ws : List Wd} {xs : List PyData} {bs : List Bool}, RdsA m A ws xs → boolsP xs = some bs → boolsW ws = some bs
  | _, _, bs, .nil, e => by cases e; rfl
  | w :: ws, x :: xs, bs, .cons h hs, e => by
    cases x with
    | bool b =>
      rw [h.flat rfl]
      have e' : (boolsP xs).map (b :: ·) = some bs := e
      obtain ⟨r, e1, e2⟩ := Option.map_eq_some_iff.mp e'
      show (boolsW ws).map (b :: ·) = some bs
      rw [bools_ok hs e1]
      exact congrArg some e2
    | _ => cases e
def pAll (vs : List PV) : Option PV := match vs with
  | [v] => match lstP v with
    | some xs => (boolsP xs).map fun bs => .d (.bool (bs.all id))
    | none => none
  | _ => none
def pAny (vs : List PV) : Option PV := match vs with
  | [v] => match lstP v with
    | some xs => (boolsP xs).map fun bs => .d (.bool (bs.any id))
    | none => none
  | _ => none
theorem op_all : OpNOk allO pAll := fun {tl B n0 A env m pe s vs ws v} h r e => by
  unfold pAll at e
  split at e
  · split at e
    · rename_i xs e1
      obtain ⟨bs, e2, e3⟩ := Option.map_eq_some_iff.mp e
      subst e3
      obtain ⟨w, q, r1⟩ := vrs1 h.bag.sub r
      subst q
      obtain ⟨n, us, q1, h1, r2⟩ := lst_ok h r1 e1
      subst q1
      refine op_d (w := .d (.bool (bs.all id))) _ ?_ (.d rfl)
      unfold allO
      simp only [show m.cells[n]? = some (.lst us) from h1, bools_ok r2 e2]
    · cases e
  · cases e
theorem op_any : OpNOk anyO pAny := fun {tl B n0 A env m pe s vs ws v} h r e => by
  unfold pAny at e
  split at e
  · split at e
    · rename_i xs e1
      obtain ⟨bs, e2, e3⟩ := Option.map_eq_some_iff.mp e
      subst e3
      obtain ⟨w, q, r1⟩ := vrs1 h.bag.sub r
      subst q
      obtain ⟨n, us, q1, h1, r2⟩ := lst_ok h r1 e1
      subst q1
      refine op_d (w := .d (.bool (bs.any id))) _ ?_ (.d rfl)
      unfold anyO
      simp only [show m.cells[n]? = some (.lst us) from h1, bools_ok r2 e2]
    · cases e
  · cases e
def strsP : List PyData → Option (List Str)
  | [] => some []
  | .str b :: r => (strsP r).map (b :: ·)
  | _ :: _ => none
def intsP : List PyData → Option (List Int)
  | [] => some []
  | .int b :: r => (intsP r).map (b :: ·)
  | _ :: _ => none
theorem strs_ok {m : Mm} {A : List Nat} : ∀ {ws : List Wd} {xs : List PyData} {bs : List Str}, RdsA m A ws xs → strsP xs = some bs → strsW ws = some bs
  | _, _, bs, .nil, e => by cases e; rfl
  | w :: ws, x :: xs, bs, .cons h hs, e => by
    cases x with
    | str b =>
      rw [h.flat rfl]
      have e' : (strsP xs).map (b :: ·) = some bs := e
      obtain ⟨r, e1, e2⟩ := Option.map_eq_some_iff.mp e'
      show (strsW ws).map (b :: ·) = some bs
      rw [strs_ok hs e1]
      exact congrArg some e2
    | _ => cases e
theorem ints_ok {m : Mm} {A : List Nat} : ∀ {ws : List Wd} {xs : List PyData} {bs : List Int}, RdsA m A ws xs → intsP xs = some bs → intsW ws = some bs
  | _, _, bs, .nil, e => by cases e; rfl
  | w :: ws, x :: xs, bs, .cons h hs, e => by
    cases x with
    | int b =>
      rw [h.flat rfl]
      have e' : (intsP xs).map (b :: ·) = some bs := e
      obtain ⟨r, e1, e2⟩ := Option.map_eq_some_iff.mp e'
      show (intsW ws).map (b :: ·) = some bs
      rw [ints_ok hs e1]
      exact congrArg some e2
    | _ => cases e
theorem ints_strs {m : Mm} {A : List Nat} {ws : List Wd} {xs : List PyData} {bs : List Int} (h : RdsA m A ws xs) (e : intsP xs = some bs) (hn : strsP xs = none) : strsW ws = none := by
  cases h with
  | nil => cases hn
  | @cons w ws x xs h hs =>
    cases x with
    | int b => rw [h.flat rfl]; rfl
    | _ => cases e
theorem rds_strs {m : Mm} {A : List Nat} (l : List Str) : RdsA m A (l.map fun x => .d (.str x)) (l.map .str) := by
  induction l with
  | nil => exact .nil
  | cons a l ih => exact .cons (.d rfl) ih
theorem rds_ints {m : Mm} {A : List Nat} (l : List Int) : RdsA m A (l.map fun x => .d (.int x)) (l.map .int) := by
  induction l with
  | nil => exact .nil
  | cons a l ih => exact .cons (.d rfl) ih
def pSort (vs : List PV) : Option PV := match vs with
  | [v] => match seqP v with
    | some xs => match strsP xs with
      | some ss => some (.fr (.l ((ss.mergeSort leS).map .str)))
      | none => match intsP xs with
        | some ns => some (.fr (.l ((ns.mergeSort leI).map .int)))
        | none => none
    | none => none
  | _ => none
theorem op_sort : OpNOk sortO pSort := fun {tl B n0 A env m pe s vs ws v} h r e => by
  unfold pSort at e
  split at e
  · split at e
    · rename_i xs e1
      obtain ⟨w, q, r1⟩ := vrs1 h.bag.sub r
      subst q
      obtain ⟨us, q1, r2⟩ := seq_ok h r1 e1
      split at e
      · rename_i ss e2
        cases e
        have r3 : RdC m A (.lst ((ss.mergeSort leS).map fun x => .d (.str x))) (.l ((ss.mergeSort leS).map .str)) := rds_strs _
        refine ⟨_, _, ?_, nx_new r3, fr_new h r3 (Nat.le_refl _)⟩
        unfold sortO
        simp only [q1, strs_ok r2 e2]
      · rename_i e2
        split at e
        · rename_i ns e3
          cases e
          have r3 : RdC m A (.lst ((ns.mergeSort leI).map fun x => .d (.int x))) (.l ((ns.mergeSort leI).map .int)) := rds_ints _
          refine ⟨_, _, ?_, nx_new r3, fr_new h r3 (Nat.le_refl _)⟩
          unfold sortO
          simp only [q1, ints_strs r2 e3 e2, ints_ok r2 e3]
        · cases e
    · cases e
  · cases e
theorem RdsA.zip {m : Mm} {A : List Nat} : ∀ {ws us : List Wd} {xs ys : List PyData}, RdsA m A ws xs → RdsA m A us ys → RdsA m A ((ws.zip us).map fun p => mkTup [p.1, p.2]) ((xs.zip ys).map fun p => .tuple [p.1, p.2])
  | [], _, _, _, .nil, _ => .nil
  | _ :: _, [], _, _, .cons _ _, .nil => .nil
  | _ :: _, _ :: _, _, _, .cons h hs, .cons g gs => .cons (rdA_tup (.cons h (.cons g .nil))) (RdsA.zip hs gs)
def pLz (vs : List PV) : Option PV := match vs with
  | [a, b] => match lstP a, lstP b with
    | some xs, some ys => some (.fr (.l ((xs.zip ys).map fun p => .tuple [p.1, p.2])))
    | _, _ => match tupP a, tupP b with
      | some xs, some ys => some (.fr (.l ((xs.zip ys).map fun p => .tuple [p.1, p.2])))
      | _, _ => none
  | _ => none
theorem tup_lw {w : Wd} {xs : List Wd} (h : tupOf w = some xs) : isLW w = false := by
  cases w with
  | d x => rfl
  | tup _ => rfl
  | _ => cases h
theorem op_lz : OpNOk lzO pLz := fun {tl B n0 A env m pe s vs ws v} h r e => by
  unfold pLz at e
  split at e
  · obtain ⟨w, w', q, r1, r2⟩ := vrs2 h.bag.sub r
    subst q
    split at e
    · rename_i xs ys e1 e2
      cases e
      obtain ⟨n, us, q1, h1, r3⟩ := lst_ok h r1 e1
      obtain ⟨k, zs, q2, h2, r4⟩ := lst_ok h r2 e2
      subst q1 q2
      have r5 : RdC m A (.lst ((us.zip zs).map fun p => mkTup [p.1, p.2])) (.l ((xs.zip ys).map fun p => .tuple [p.1, p.2])) := r3.zip r4
      refine ⟨_, _, ?_, nx_new r5, fr_new h r5 (Nat.le_refl _)⟩
      unfold lzO
      simp only [isLW, s_ref h1, s_ref h2]
      rfl
    · split at e
      · rename_i xs ys e1 e2
        cases e
        obtain ⟨us, q1, r3⟩ := tup_ok r1 e1
        obtain ⟨zs, q2, r4⟩ := tup_ok r2 e2
        have r5 : RdC m A (.lst ((us.zip zs).map fun p => mkTup [p.1, p.2])) (.l ((xs.zip ys).map fun p => .tuple [p.1, p.2])) := r3.zip r4
        refine ⟨_, _, ?_, nx_new r5, fr_new h r5 (Nat.le_refl _)⟩
        unfold lzO
        simp only [tup_lw q1, tup_lw q2, tupOf_seq q1, tupOf_seq q2]
        rfl
      · cases e
  · cases e
end PD
set_option Elab.async false
set_option linter.all false
set_option maxRecDepth 100000
set_option maxHeartbeats 2000000
namespace PD
open PySem PySem.Spec PyProof.Rows L2 DL
/-! ### more expressions -/
def truP : PV → Option Bool
  | .d .none => some false
  | .d (.bool b) => some b
  | .d (.int i) => some (i != 0)
  | .d (.str x) => if x.length ≤ LIM then some ((x.length : Int) != 0) else none
  | .d (.tuple xs) => some (!xs.isEmpty)
  | .d (.list xs) => some (!xs.isEmpty)
  | .d (.dict xs) => some (!xs.isEmpty)
  | .fr (.l xs) => some (!xs.isEmpty)
  | .bo _ (.l xs) => some (!xs.isEmpty)
  | .fr (.k xs) => some (!xs.isEmpty)
  | .bo _ (.k xs) => some (!xs.isEmpty)
  | .bag => none
def tyP : PV → Option String
  | .d x => some (tyD x)
  | .fr c => some (tyD c.toD)
  | .bo _ c => some (tyD c.toD)
  | .bag => none
def Co.emp : Co → Bool
  | .l xs => xs.isEmpty
  | .k xs => xs.isEmpty
def boolP : PV → Option Bool
  | .d (.bool b) => some b
  | _ => none
section
variable {tl : List (Str × Str)} {B : Lo} {n0 b0 b1 : Nat} {A : List Nat} {env : DL.Env} {m m' m1 : Mm} {pe : PEnv} {s s' : Bg} {v : PV} {w : Wd} {vs : List PV} {ws : List Wd}
theorem isEmpty_len {α β : Type} {xs : List α} {ys : List β} (h : xs.length = ys.length) : xs.isEmpty = ys.isEmpty := by
  cases xs <;> cases ys <;> first | rfl | cases h
/-- the cell of one that is a list or a dict -/
theorem cell_ok (h : SR tl B n0 A env m pe s) (r : VR pe env B A b0 m v w) {c : Co} (e : v = .fr c ∨ (∃ i, v = .bo i c) ∨ v = .d c.toD) : ∃ n cl, w = .ref n ∧ Has m n cl ∧ RdC m A cl c := by
  rcases e with e | ⟨i, e⟩ | e
  · subst e
    obtain ⟨n, cl, e1, _, _, h3, h4⟩ := r
    exact ⟨n, cl, e1, h3, h4.dropA⟩
  · subst e
    obtain ⟨n, cl, e1, _, _, _, h3, h4⟩ := h.own _ _ r.1
    have e2 := r.2.symm.trans e1
    cases e2
    exact ⟨n, cl, rfl, h3, h4⟩
  · subst e
    cases c with
    | l xs =>
      obtain ⟨n, ws, e1, h1, _, h2⟩ := RdA.lstI r
      exact ⟨n, _, e1, h1, h2⟩
    | k xs =>
      cases r with
      | d h => cases h
      | dct hh hn hs => exact ⟨_, _, rfl, hh, hs⟩
theorem tru_cell {n : Nat} {cl : Cell} {c : Co} (h : Has m n cl) (r : RdC m A cl c) : truO (.ref n) m = some (!c.emp) := by
  show (match m.cells[n]? with
    | some (.lst xs) => some (!xs.isEmpty)
    | some (.dct kvs) => some (!kvs.isEmpty)
    | _ => none) = _
  rw [show m.cells[n]? = some cl from h]
  cases cl with
  | lst ws => cases c with
    | l xs => show some _ = some _; rw [isEmpty_len (RdsA.length r)]; rfl
    | k xs => exact r.elim
  | dct ws => cases c with
    | k xs => show some _ = some _; rw [isEmpty_len (RdkA.length r)]; rfl
    | l xs => exact r.elim
  | ins _ _ => exact r.elim
  | tab _ _ => exact r.elim
theorem tru_ok (h : SR tl B n0 A env m pe s) (r : VR pe env B A b0 m v w) {k : Bool} (e : truP v = some k) : truO w m = some k := by
  have cc : ∀ (c : Co), (v = .fr c ∨ (∃ i, v = .bo i c) ∨ v = .d c.toD) → truO w m = some (!c.emp) := fun c hc => by
    obtain ⟨n, cl, e1, h1, h2⟩ := cell_ok h r hc
    subst e1
    exact tru_cell h1 h2
  unfold truP at e
  split at e
  · rw [RdA.flat r rfl]; exact e
  · rw [RdA.flat r rfl]; exact e
  · rw [RdA.flat r rfl]; exact e
  · rw [RdA.flat r rfl]; exact e
  · cases e
    cases r with
    | d _ => rfl
    | tup hs => show some _ = some _; rw [isEmpty_len hs.length]
  · cases e; exact cc (.l _) (.inr (.inr rfl))
  · cases e; exact cc (.k _) (.inr (.inr rfl))
  · cases e; exact cc (.l _) (.inl rfl)
  · cases e; exact cc (.l _) (.inr (.inl ⟨_, rfl⟩))
  · cases e; exact cc (.k _) (.inl rfl)
  · cases e; exact cc (.k _) (.inr (.inl ⟨_, rfl⟩))
  · cases e
theorem ty_cell {n : Nat} {cl : Cell} {c : Co} (h : Has m n cl) (r : RdC m A cl c) : tyName m (.ref n) = some (tyD c.toD) := by
  show (match m.cells[n]? with
    | some (.lst _) => some "list"
    | some (.dct _) => some "dict"
    | _ => none) = _
  rw [show m.cells[n]? = some cl from h]
  cases cl with
  | lst ws => cases c with
    | l xs => rfl
    | k xs => exact r.elim
  | dct ws => cases c with
    | k xs => rfl
    | l xs => exact r.elim
  | ins _ _ => exact r.elim
  | tab _ _ => exact r.elim
theorem ty_ok (h : SR tl B n0 A env m pe s) (r : VR pe env B A b0 m v w) {t : String} (e : tyP v = some t) : tyName m w = some t := by
  cases v with
  | d x =>
    cases e
    cases r with
    | d h => cases x <;> first | rfl | cases h
    | tup _ => rfl
    | lst hh _ hs => exact ty_cell (c := .l _) hh hs
    | dct hh _ hs => exact ty_cell (c := .k _) hh hs
  | fr c =>
    cases e
    obtain ⟨n, cl, e1, h1, h2⟩ := cell_ok h r (.inl rfl)
    subst e1
    exact ty_cell h1 h2
  | bo i c =>
    cases e
    obtain ⟨n, cl, e1, h1, h2⟩ := cell_ok h r (.inr (.inl ⟨_, rfl⟩))
    subst e1
    exact ty_cell h1 h2
  | bag => cases e
theorem bool_ok (r : VR pe env B A b0 m v w) {k : Bool} (e : boolP v = some k) : asB w = some k := by
  unfold boolP at e
  split at e
  · rw [RdA.flat r rfl]; exact e
  · cases e
end
def pIsi (Ts : List String) (v : PV) : Option PV := (tyP v).map fun a => .d (.bool (Ts.any (isT a)))
theorem op_isi {Ts : List String} : Op1Ok (isiO Ts) (pIsi Ts) := fun {tl B n0 A env m pe s a wa v} h ra e => by
  obtain ⟨t, e1, e2⟩ := Option.map_eq_some_iff.mp e
  subst e2
  exact op_d _ (by unfold isiO; rw [ty_ok h ra e1]) (.d rfl)
def b2P (p : PV → PV → Option PV) (ga gb : Pe PV) : Pe Bool := fun e s => (p2 p ga gb e s).bind fun w s => PR.of (boolP w) s
def bVP (g : Pe PV) : Pe Bool := fun e s => (g e s).bind fun w s => PR.of (truP w) s
def bAndP (f g : Pe Bool) : Pe Bool := fun e s => (f e s).bind fun b s => if b = true then g e s else .ok false s
def bOrP (f g : Pe Bool) : Pe Bool := fun e s => (f e s).bind fun b s => if b = true then .ok true s else g e s
def bNotP (f : Pe Bool) : Pe Bool := fun e s => (f e s).bind fun b s => .ok (!b) s
def bTrueP : Pe Bool := fun _ s => .ok true s
def pIf (c : Pe Bool) (f g : Pe PV) : Pe PV := fun e s => (c e s).bind fun b s => if b = true then f e s else g e s
def pAndE (f g : Pe PV) : Pe PV := fun e s => (f e s).bind fun w s => match truP w with
  | some true => g e s
  | some false => .ok w s
  | none => .stuck
def pOrE (f g : Pe PV) : Pe PV := fun e s => (f e s).bind fun w s => match truP w with
  | some true => .ok w s
  | some false => g e s
  | none => .stuck
def pNotE (f : Pe PV) : Pe PV := fun e s => (f e s).bind fun w s => match truP w with
  | some b => .ok (.d (.bool (!b))) s
  | none => .stuck
def pCh (p p' : PV → PV → Option PV) (fa fb fc : Pe PV) : Pe PV := fun e s => (fa e s).bind fun a s => (fb e s).bind fun b s => (PR.of (p a b) s).bind fun z s => match boolP z with
  | some k => if k = true then (fc e s).bind fun c s => PR.of (p' b c) s else .ok (.d (.bool false)) s
  | none => .stuck
def bChP (p p' : PV → PV → Option PV) (fa fb fc : Pe PV) : Pe Bool := fun e s => (pCh p p' fa fb fc e s).bind fun w s => PR.of (boolP w) s
def oNoneP : Pe (Option Int) := fun _ s => .ok none s
def oSomeP (f : Pe PV) : Pe (Option Int) := fun e s => (f e s).bind fun w s => match w with
  | .d (.int i) => .ok (some i) s
  | _ => .stuck
def pSl (f : Pe PV) (lo hi : Pe (Option Int)) : Pe PV := fun e s => (f e s).bind fun w s => (lo e s).bind fun l s => (hi e s).bind fun h s => PR.of (pCut w l h) s
def revP (v : PV) : Option PV := match lstP v with
  | some xs => some (.fr (.l xs.reverse))
  | none => match tupP v with
    | some xs => some (.d (.tuple xs.reverse))
    | none => none
def pRv (f : Pe PV) : Pe PV := fun e s => (f e s).bind fun w s => PR.of (revP w) s
def joinP (a : Str) (v : PV) : Option PV := match seqP v with
  | some xs => match strsP xs with
    | some ys => if (ys.map (·.length)).sum + ys.length * a.length ≤ 16777216 then some (.d (.str (Txt.join a ys))) else none
    | none => none
  | none => none
def pJoin (fo fe : Pe PV) : Pe PV := fun e s => (fo e s).bind fun w s => match w with
  | .d (.str a) => (fe e s).bind fun y s => PR.of (joinP a y) s
  | _ => .stuck
/-- *e in a display -/
def paS (f : Pe PV) (r : Pe (List PV)) : Pe (List PV) := fun e s => (f e s).bind fun w s => match seqP w with
  | some xs => (r e s).bind fun ys s => .ok (xs.map .d ++ ys) s
  | none => .stuck
section
variable {tl : List (Str × Str)} {B : Lo} {n0 b0 b1 : Nat} {A : List Nat} {env : DL.Env} {m m' m1 : Mm} {pe : PEnv} {s s' : Bg}
variable {g ga gb gc : Pe PV} {f fa fb fc : Em Wd} {t t' : Pe Bool} {c c' : Em Bool}
theorem eqT : ∀ (b0 b1 : Nat) (m : Mm) (v w : Bool), b1 ≤ b0 → v = w → v = w := fun _ _ _ _ _ _ h => h
theorem sim_b2 {o : Op2} {p : PV → PV → Option PV} (ho : Op2Ok o p) (ha : SimE tl ga fa) (hb : SimE tl gb fb) : SimT tl (b2P p ga gb) (b2 o fa fb) := fun B n0 A env m pe s h =>
  (sim_2 ho ha hb B n0 A env m pe s h).bind eqT fun a wa m1 s1 f1 w1 b1 r1 => by
    cases e : boolP a with
    | none => trivial
    | some k =>
      rw [bool_ok r1 e]
      exact relE_of (h.step f1 w1 b1) (.inl rfl) rfl
theorem sim_bV (ha : SimE tl ga fa) : SimT tl (bVP ga) (bV fa) := fun B n0 A env m pe s h =>
  (ha B n0 A env m pe s h).bind eqT fun a wa m1 s1 f1 w1 b1 r1 => by
    have h1 := h.step f1 w1 b1
    cases e : truP a with
    | none => trivial
    | some k =>
      rw [tru_ok h1 r1 e]
      exact relE_of h1 (.inl rfl) rfl
theorem sim_bAnd (h1 : SimT tl t c) (h2 : SimT tl t' c') : SimT tl (bAndP t t') (bAnd c c') := fun B n0 A env m pe s h =>
  (h1 B n0 A env m pe s h).bind eqT fun a wa m1 s1 f1 w1 b1 r1 => by
    subst r1
    have h3 := h.step f1 w1 b1
    cases a with
    | true => exact h2 B n0 A env m1 pe s1 h3
    | false => exact relE_of h3 (.inl rfl) rfl
theorem sim_bOr (h1 : SimT tl t c) (h2 : SimT tl t' c') : SimT tl (bOrP t t') (bOr c c') := fun B n0 A env m pe s h =>
  (h1 B n0 A env m pe s h).bind eqT fun a wa m1 s1 f1 w1 b1 r1 => by
    subst r1
    have h3 := h.step f1 w1 b1
    cases a with
    | false => exact h2 B n0 A env m1 pe s1 h3
    | true => exact relE_of h3 (.inl rfl) rfl
theorem sim_bNot (h1 : SimT tl t c) : SimT tl (bNotP t) (bNot c) := fun B n0 A env m pe s h =>
  (h1 B n0 A env m pe s h).bind eqT fun a wa m1 s1 f1 w1 b1 r1 => by
    subst r1
    exact relE_of (h.step f1 w1 b1) (.inl rfl) rfl
theorem sim_bTrue : SimT tl bTrueP (fun _ m => .ok true m) := fun B n0 A env m pe s h => relE_of h (.inl rfl) rfl
theorem baseV : ∀ (b0 b1 : Nat) (m : Mm) (v : PV) (w : Wd), b1 ≤ b0 → VR pe env B A b0 m v w → VR pe env B A b1 m v w := fun _ _ _ _ _ hb h => h.base hb
theorem sim_If (h1 : SimT tl t c) (ha : SimE tl ga fa) (hb : SimE tl gb fb) : SimE tl (pIf t ga gb) (eIf c fa fb) := fun B n0 A env m pe s h =>
  (h1 B n0 A env m pe s h).bind baseV fun a wa m1 s1 f1 w1 b1 r1 => by
    subst r1
    have h3 := h.step f1 w1 b1
    cases a with
    | true => exact ha B n0 A env m1 pe s1 h3
    | false => exact hb B n0 A env m1 pe s1 h3
theorem sim_And (ha : SimE tl ga fa) (hb : SimE tl gb fb) : SimE tl (pAndE ga gb) (eAnd fa fb) := fun B n0 A env m pe s h =>
  (ha B n0 A env m pe s h).bind0 fun a wa m1 s1 f1 w1 b1 r1 => by
    have h1 := h.step f1 w1 b1
    cases e : truP a with
    | none => simp only [e]; trivial
    | some k =>
      simp only [e, tru_ok h1 r1 e]
      cases k with
      | true => exact (hb B n0 A env m1 pe s1 h1).mono fun m' v w f _ r => r.base f1.le
      | false => exact ⟨_, m1, rfl, .refl, w1, b1, r1⟩
theorem sim_Or (ha : SimE tl ga fa) (hb : SimE tl gb fb) : SimE tl (pOrE ga gb) (eOr fa fb) := fun B n0 A env m pe s h =>
  (ha B n0 A env m pe s h).bind0 fun a wa m1 s1 f1 w1 b1 r1 => by
    have h1 := h.step f1 w1 b1
    cases e : truP a with
    | none => simp only [e]; trivial
    | some k =>
      simp only [e, tru_ok h1 r1 e]
      cases k with
      | false => exact (hb B n0 A env m1 pe s1 h1).mono fun m' v w f _ r => r.base f1.le
      | true => exact ⟨_, m1, rfl, .refl, w1, b1, r1⟩
theorem sim_Not (ha : SimE tl ga fa) : SimE tl (pNotE ga) (eNot fa) := fun B n0 A env m pe s h =>
  (ha B n0 A env m pe s h).bind baseV fun a wa m1 s1 f1 w1 b1 r1 => by
    have h1 := h.step f1 w1 b1
    cases e : truP a with
    | none => simp only [e]; trivial
    | some k =>
      simp only [e, tru_ok h1 r1 e]
      exact relE_of h1 (.inl rfl) (.d rfl)
theorem sim_Ch {o o' : Op2} {p p' : PV → PV → Option PV} (ho : Op2Ok o p) (ho' : Op2Ok o' p') (ha : SimE tl ga fa) (hb : SimE tl gb fb) (hc : SimE tl gc fc) : SimE tl (pCh p p' ga gb gc) (eCh o o' fa fb fc) := fun B n0 A env m pe s h =>
  (ha B n0 A env m pe s h).bind baseV fun a wa m1 s1 f1 w1 b1 r1 => by
    have h1 := h.step f1 w1 b1
    refine (hb B n0 A env m1 pe s1 h1).bind baseV fun b wb m2 s2 f2 w2 b2 r2 => ?_
    have h2 := h1.step f2 w2 b2
    cases e : p a b with
    | none => trivial
    | some z =>
      obtain ⟨wz, m3, e1, nx, r3⟩ := ho h2 ((r1.step h.bag.sub f2).base (Nat.zero_le _)) (r2.base (Nat.zero_le _)) e
      have f3 : Fr (bagC B) m2 m3 := nx.fr0.any
      have h3 := h2.step f3 (nx.wf h2.wf) (h2.bag.fr0 nx.fr0)
      rw [e1]
      simp only [PR.of_some, PR.bind_ok, Rs.of, Rs.bind_ok]
      cases e3 : boolP z with
      | none => trivial
      | some k =>
        rw [bool_ok r3 e3]
        simp only []
        cases k with
        | false => exact ⟨_, m3, rfl, f3, h3.wf, h3.bag, .d rfl⟩
        | true =>
          have g : RelE (VR pe env B A) B A m3 ((gc pe s2).bind fun c s => PR.of (p' b c) s) ((fc env m3).bind fun c m => Rs.of (o' wb c m)) := by
            refine (hc B n0 A env m3 pe s2 h3).bind baseV fun c wc m4 s4 f4 w4 b4 r4 => ?_
            have h4 := h3.step f4 w4 b4
            cases e5 : p' b c with
            | none => trivial
            | some v =>
              obtain ⟨w5, m5, e6, nx5, r5⟩ := ho' h4 (((r2.step h.bag.sub f3).step h.bag.sub f4).base (Nat.zero_le _)) (r4.base (Nat.zero_le _)) e5
              rw [e6]
              exact relE_of h4 nx5 r5
          have g2 : RelE (VR pe env B A) B A m2 ((gc pe s2).bind fun c s => PR.of (p' b c) s) ((fc env m3).bind fun c m => Rs.of (o' wb c m)) := by
            cases e7 : (gc pe s2).bind fun c s => PR.of (p' b c) s with
            | stuck => trivial
            | ok v s' =>
              rw [e7] at g
              obtain ⟨w, m', e8, f8, w8, b8, r8⟩ := g
              exact ⟨w, m', e8, f3.trans f8, w8, b8, r8.base f3.le⟩
            | exc x s' =>
              rw [e7] at g
              obtain ⟨w, m', e8, f8, w8, b8, r8⟩ := g
              exact ⟨w, m', e8, f3.trans f8, w8, b8, r8⟩
          exact g2
theorem sim_bCh {o o' : Op2} {p p' : PV → PV → Option PV} (ho : Op2Ok o p) (ho' : Op2Ok o' p') (ha : SimE tl ga fa) (hb : SimE tl gb fb) (hc : SimE tl gc fc) : SimT tl (bChP p p' ga gb gc) (bCh o o' fa fb fc) := fun B n0 A env m pe s h =>
  (sim_Ch ho ho' ha hb hc B n0 A env m pe s h).bind eqT fun a wa m1 s1 f1 w1 b1 r1 => by
    cases e : boolP a with
    | none => trivial
    | some k =>
      rw [bool_ok r1 e]
      exact relE_of (h.step f1 w1 b1) (.inl rfl) rfl
theorem sim_oN : SimO tl oNoneP oNone := fun B n0 A env m pe s h => relE_of h (.inl rfl) rfl
theorem sim_oS (ha : SimE tl ga fa) : SimO tl (oSomeP ga) (oSome fa) := fun B n0 A env m pe s h =>
  (ha B n0 A env m pe s h).bind (fun _ _ _ _ _ _ h => h) fun a wa m1 s1 f1 w1 b1 r1 => by
    have h1 := h.step f1 w1 b1
    split
    · rw [RdA.flat r1 rfl]
      exact relE_of h1 (.inl rfl) rfl
    · trivial
theorem sim_Sl {lo hi : Pe (Option Int)} {l h : Eo} (ha : SimE tl ga fa) (hl : SimO tl lo l) (hh : SimO tl hi h) : SimE tl (pSl ga lo hi) (eSl fa l h) := fun B n0 A env m pe s h =>
  (ha B n0 A env m pe s h).bind baseV fun a wa m1 s1 f1 w1 b1 r1 => by
    have h1 := h.step f1 w1 b1
    refine (hl B n0 A env m1 pe s1 h1).bind baseV fun x x' m2 s2 f2 w2 b2 r2 => ?_
    subst r2
    have h2 := h1.step f2 w2 b2
    refine (hh B n0 A env m2 pe s2 h2).bind baseV fun y y' m3 s3 f3 w3 b3 r3 => ?_
    subst r3
    have h3 := h2.step f3 w3 b3
    cases e : pCut a x y with
    | none => trivial
    | some v =>
      obtain ⟨w, m', e1, nx, r⟩ := cut_ok h3 (((r1.step h.bag.sub f2).step h.bag.sub f3).base (Nat.zero_le _)) e
      rw [e1]
      exact relE_of h3 nx r
theorem sim_Rv (ha : SimE tl ga fa) : SimE tl (pRv ga) (eRv fa) := fun B n0 A env m pe s h =>
  (ha B n0 A env m pe s h).bind baseV fun a wa m1 s1 f1 w1 b1 r1 => by
    have h1 := h.step f1 w1 b1
    cases e : revP a with
    | none => trivial
    | some v =>
      unfold revP at e
      split at e
      · rename_i xs e1
        cases e
        obtain ⟨n, ws, q1, q2, q3⟩ := lst_ok h1 r1 e1
        subst q1
        have r : RdC m1 A (.lst ws.reverse) (.l xs.reverse) := q3.rev
        simp only [show m1.cells[n]? = some (.lst ws) from q2]
        exact relE_of h1 (nx_new r) (fr_new h1 r (Nat.le_refl _))
      · split at e
        · rename_i xs e1
          cases e
          obtain ⟨ws, q1, q3⟩ := tup_ok r1 e1
          have r : RdA m1 A (mkTup ws.reverse) (.tuple xs.reverse) := rdA_tup q3.rev
          have g : RelE (VR pe env B A) B A m1 (PR.of (some (PV.d (.tuple xs.reverse))) s1) (Rs.ok (mkTup ws.reverse) m1) := relE_of h1 (.inl rfl) r
          cases wa with
          | ref n => cases q1
          | _ =>
            simp only [q1]
            exact g
        · cases e
theorem sim_Join (ha : SimE tl ga fa) (hb : SimE tl gb fb) : SimE tl (pJoin ga gb) (eJoin fa fb) := fun B n0 A env m pe s h =>
  (ha B n0 A env m pe s h).bind baseV fun a wa m1 s1 f1 w1 b1 r1 => by
    have h1 := h.step f1 w1 b1
    split
    · rename_i z
      rw [RdA.flat r1 rfl]
      refine (hb B n0 A env m1 pe s1 h1).bind baseV fun y wy m2 s2 f2 w2 b2 r2 => ?_
      have h2 := h1.step f2 w2 b2
      cases e : joinP z y with
      | none => trivial
      | some v =>
        unfold joinP at e
        split at e
        · rename_i xs e1
          obtain ⟨ws, q1, q3⟩ := seq_ok h2 r2 e1
          split at e
          · rename_i ys e2
            split at e
            · rename_i hl
              cases e
              have e3 : joinR z wy m2 = some (.d (.str (Txt.join z ys)), m2) := by
                unfold joinR
                simp only [q1, strs_ok q3 e2]
                exact if_pos hl
              rw [e3]
              exact relE_of h2 (.inl rfl) (.d rfl)
            · cases e
          · cases e
        · cases e
    · trivial
theorem VRs.ofD {m : Mm} {ws : List Wd} {xs : List PyData} {vs : List PV} {us : List Wd} (hB : ∀ k ∈ bagC B, k ∈ A) (h : RdsA m1 A ws xs) (f : Fr (bagC B) m1 m) (hb : b0 ≤ m1.cells.length) (r : VRs pe env B A m1.cells.length m vs us) : VRs pe env B A b0 m (xs.map .d ++ vs) (ws ++ us) := by
  induction ws generalizing xs b0 with
  | nil => cases h; exact r.base hb
  | cons w ws ih =>
    cases h with
    | cons h hs => exact ⟨m1, hb, f, h, trivial, ih hs (Nat.le_refl _)⟩
theorem sim_aS {r : Pe (List PV)} {fr : Em (List Wd)} (ha : SimE tl ga fa) (hr : SimA tl r fr) : SimA tl (paS ga r) (aS fa fr) := fun B n0 A env m pe s h =>
  (ha B n0 A env m pe s h).bind0 fun a wa m1 s1 f1 w1 b1 r1 => by
    have h1 := h.step f1 w1 b1
    cases e : seqP a with
    | none => simp only [e]; trivial
    | some xs =>
      obtain ⟨ws, q1, q2⟩ := seq_ok h1 r1 e
      simp only [e, q1]
      refine (hr B n0 A env m1 pe s1 h1).bind0 fun vs us m2 s2 f2 w2 b2 r2 => ?_
      exact ⟨_, m2, rfl, .refl, w2, b2, VRs.ofD h.bag.sub q2 f2 f1.le r2⟩
end
end PD
set_option Elab.async false
set_option linter.all false
set_option maxRecDepth 100000
set_option maxHeartbeats 2000000
namespace PD
open PySem PySem.Spec PyProof.Rows L2 DL
/-! ### slots that change -/
section
variable {tl : List (Str × Str)} {B : Lo} {n0 b0 b1 : Nat} {A : List Nat} {env : DL.Env} {m m' m1 : Mm} {pe : PEnv} {s s' : Bg}
theorem set_cases {α : Type} {l : List α} {i j : Nat} {x y : α} (h : (l.set i x)[j]? = some y) : (j = i ∧ j < l.length ∧ y = x) ∨ (j ≠ i ∧ l[j]? = some y) := by
  by_cases e : j = i
  · subst e
    have hl : j < l.length := by have := get_of h; rwa [List.length_set] at this
    rw [List.getElem?_set_self hl] at h
    exact .inl ⟨rfl, hl, (Option.some.inj h).symm⟩
  · rw [List.getElem?_set_ne (Ne.symm e)] at h
    exact .inr ⟨e, h⟩
theorem set_ne' {α : Type} {l : List α} {i j : Nat} {x : α} (h : j ≠ i) : (l.set i x)[j]? = l[j]? := List.getElem?_set_ne (Ne.symm h)
/-- a slot gets data -/
theorem SR.set (h : SR tl B n0 A env m pe s) {i : Nat} {w : Wd} {x : PyData} (r : RdA m A w x) : SR tl B n0 A (env.set i (some w)) m (pe.set i (.d x)) s := by
  refine ⟨h.wf, h.le, by simp [h.len], fun j y e => ?_, fun j e => ?_, fun j c e => ?_, fun j k c c' n e1 e2 e3 e4 => ?_, h.bag, h.alt, h.tab⟩
  · rcases set_cases e with ⟨rfl, hl, ey⟩ | ⟨hne, e⟩
    · cases ey
      exact ⟨w, by rw [List.getElem?_set_self (by rw [h.len]; exact hl)], r⟩
    · obtain ⟨w', q1, q2⟩ := h.val j y e
      exact ⟨w', by rw [set_ne' hne]; exact q1, q2⟩
  · rcases set_cases e with ⟨rfl, hl, ey⟩ | ⟨hne, e⟩
    · cases ey
    · obtain ⟨a, b, q1, q2⟩ := h.bagv j e
      exact ⟨a, b, q1, by rw [set_ne' hne]; exact q2⟩
  · rcases set_cases e with ⟨rfl, hl, ey⟩ | ⟨hne, e⟩
    · cases ey
    · obtain ⟨n, cl, q1, q2⟩ := h.own j c e
      exact ⟨n, cl, by rw [set_ne' hne]; exact q1, q2⟩
  · rcases set_cases e1 with ⟨_, _, ey⟩ | ⟨hj, e1⟩
    · cases ey
    · rcases set_cases e2 with ⟨_, _, ey⟩ | ⟨hk, e2⟩
      · cases ey
      · rw [set_ne' hj] at e3
        rw [set_ne' hk] at e4
        exact h.dst j k c c' n e1 e2 e3 e4
/-- a slot is forgotten -/
theorem SR.unset (h : SR tl B n0 A env m pe s) {i : Nat} {o : Option Wd} : SR tl B n0 A (env.set i o) m (pe.set i .no) s := by
  refine ⟨h.wf, h.le, by simp [h.len], fun j y e => ?_, fun j e => ?_, fun j c e => ?_, fun j k c c' n e1 e2 e3 e4 => ?_, h.bag, h.alt, h.tab⟩
  · rcases set_cases e with ⟨rfl, hl, ey⟩ | ⟨hne, e⟩
    · cases ey
    · obtain ⟨w', q1, q2⟩ := h.val j y e
      exact ⟨w', by rw [set_ne' hne]; exact q1, q2⟩
  · rcases set_cases e with ⟨rfl, hl, ey⟩ | ⟨hne, e⟩
    · cases ey
    · obtain ⟨a, b, q1, q2⟩ := h.bagv j e
      exact ⟨a, b, q1, by rw [set_ne' hne]; exact q2⟩
  · rcases set_cases e with ⟨rfl, hl, ey⟩ | ⟨hne, e⟩
    · cases ey
    · obtain ⟨n, cl, q1, q2⟩ := h.own j c e
      exact ⟨n, cl, by rw [set_ne' hne]; exact q1, q2⟩
  · rcases set_cases e1 with ⟨_, _, ey⟩ | ⟨hj, e1⟩
    · cases ey
    · rcases set_cases e2 with ⟨_, _, ey⟩ | ⟨hk, e2⟩
      · cases ey
      · rw [set_ne' hj] at e3
        rw [set_ne' hk] at e4
        exact h.dst j k c c' n e1 e2 e3 e4
/-- a slot gets a cell that nobody else has: made since m -/
theorem SR.own' (h : SR tl B n0 A env m pe s) (f : Fr (bagC B) m m') (w : WF m') (b : BagR B A m' s') {i n : Nat} {cl : Cell} {c : Co} (hn : m.cells.length ≤ n) (hA : n ∉ A) (hh : Has m' n cl) (hc : RdC m' (n :: A) cl c) :
    SR tl B n0 (n :: A) (env.set i (some (.ref n))) m' (pe.set i (.own c)) s' := by
  have hB := h.bag.sub
  have mv : ∀ k c, Has m k c → k ∉ A → Has m' k c ∧ k ∉ n :: A := fun k c hk hn' => ⟨f.has hk fun z => hn' (hB k z), fun z => by
    rcases List.mem_cons.mp z with e | z
    · have := hk.lt; omega
    · exact hn' z⟩
  refine ⟨w, Nat.le_trans h.le f.le, by simp [h.len], fun j y e => ?_, fun j e => ?_, fun j c' e => ?_, fun j k c1 c2 n' e1 e2 e3 e4 => ?_, b.setA fun k _ hk => List.mem_cons_of_mem _ hk, fun k hk => ?_, h.tab.fr f h.bag⟩
  · rcases set_cases e with ⟨rfl, hl, ey⟩ | ⟨hne, e⟩
    · cases ey
    · obtain ⟨w', q1, q2⟩ := h.val j y e
      exact ⟨w', by rw [set_ne' hne]; exact q1, q2.mv mv⟩
  · rcases set_cases e with ⟨rfl, hl, ey⟩ | ⟨hne, e⟩
    · cases ey
    · obtain ⟨a, b, q1, q2⟩ := h.bagv j e
      exact ⟨a, b, q1, by rw [set_ne' hne]; exact q2⟩
  · rcases set_cases e with ⟨rfl, hl, ey⟩ | ⟨hne, e⟩
    · cases ey
      exact ⟨n, cl, by rw [List.getElem?_set_self (by rw [h.len]; exact hl)], List.mem_cons_self, Nat.le_trans h.le hn, fun z => hA (bagA_sub h.bag _ z), hh, hc⟩
    · obtain ⟨k, cl', q1, q2, q3, q4, q5, q6⟩ := h.own j c' e
      exact ⟨k, cl', by rw [set_ne' hne]; exact q1, List.mem_cons_of_mem _ q2, q3, q4, f.has q5 fun z => q4 (bagC_A z), q6.mv mv⟩
  · have old : ∀ {j : Nat} {c : Co}, pe[j]? = some (.own c) → env[j]? = some (some (.ref n)) → False := fun {j c} e1 e3 => by
      obtain ⟨k, cl', q1, _, _, _, q5, _⟩ := h.own j c e1
      rw [q1] at e3
      cases e3
      have := q5.lt
      omega
    rcases set_cases e1 with ⟨ej, hl, ey⟩ | ⟨hj, g1⟩
    · rw [ej, List.getElem?_set_self (by rw [h.len, ← ej]; exact hl)] at e3
      cases e3
      rcases set_cases e2 with ⟨ek, _, _⟩ | ⟨hk, g2⟩
      · rw [ej, ek]
      · rw [set_ne' hk] at e4
        exact (old g2 e4).elim
    · rw [set_ne' hj] at e3
      rcases set_cases e2 with ⟨ek, hl, ey⟩ | ⟨hk, g2⟩
      · rw [ek, List.getElem?_set_self (by rw [h.len, ← ek]; exact hl)] at e4
        cases e4
        exact (old g1 e3).elim
      · rw [set_ne' hk] at e4
        exact h.dst j k c1 c2 n' g1 g2 e3 e4
  · rcases List.mem_cons.mp hk with e | hk
    · rw [e]; exact hh.lt
    · exact Nat.lt_of_lt_of_le (h.alt k hk) f.le
/-- what a slot alone had is data from now on -/
theorem SR.freeze (h : SR tl B n0 A env m pe s) {j n : Nat} {c : Co} (e : pe[j]? = some (.own c)) (hw : env[j]? = some (some (.ref n))) :
    SR tl B n0 (A.filter (· ≠ n)) env m (pe.set j (.d c.toD)) s ∧ RdA m (A.filter (· ≠ n)) (.ref n) c.toD ∧ n ∈ A ∧ n0 ≤ n := by
  obtain ⟨n', cl', q1, q2, q3, q4, q5, q6⟩ := h.own j c e
  rw [hw] at q1
  cases q1
  have mv : ∀ k c, Has m k c → k ∉ A → Has m k c ∧ k ∉ A.filter (· ≠ n) := fun k c hk hn' => ⟨hk, fun z => hn' (List.mem_filter.mp z).1⟩
  have rd : RdA m (A.filter (· ≠ n)) (.ref n) c.toD := .of q5 (by simp) (q6.mv mv)
  refine ⟨⟨h.wf, h.le, by simp [h.len], fun k y e1 => ?_, fun k e1 => ?_, fun k c' e1 => ?_, fun k k' c1 c2 n' e1 e2 e3 e4 => ?_, h.bag.setA fun k hk hA => List.mem_filter.mpr ⟨hA, by simp; exact fun z => q4 (by rw [← z]; exact hk)⟩, fun k hk => h.alt k (List.mem_filter.mp hk).1, h.tab⟩, rd, q2, q3⟩
  · rcases set_cases e1 with ⟨rfl, hl, ey⟩ | ⟨hne, e1⟩
    · cases ey
      exact ⟨_, hw, rd⟩
    · obtain ⟨w', p1, p2⟩ := h.val k y e1
      exact ⟨w', p1, p2.mv mv⟩
  · rcases set_cases e1 with ⟨rfl, hl, ey⟩ | ⟨hne, e1⟩
    · cases ey
    · exact h.bagv k e1
  · rcases set_cases e1 with ⟨rfl, hl, ey⟩ | ⟨hne, e1⟩
    · cases ey
    · obtain ⟨k', cl2, p1, p2, p3, p4, p5, p6⟩ := h.own k c' e1
      refine ⟨k', cl2, p1, List.mem_filter.mpr ⟨p2, ?_⟩, p3, p4, p5, p6.mv mv⟩
      simp
      intro z
      subst z
      exact hne (h.dst k j c' c k' e1 e p1 hw)
  · rcases set_cases e1 with ⟨_, _, ey⟩ | ⟨_, e1⟩
    · cases ey
    · rcases set_cases e2 with ⟨_, _, ey⟩ | ⟨_, e2⟩
      · cases ey
      · exact h.dst k k' c1 c2 n' e1 e2 e3 e4
/-- what a slot alone has changes in place -/
theorem SR.put (h : SR tl B n0 A env m pe s) {j n : Nat} {cl cl' : Cell} {c c' : Co} {pure : Bool} (e : pe[j]? = some (.own c)) (hw : env[j]? = some (some (.ref n))) (hh : Has m n cl) (r : RdC m A cl' c') (hp : pure = true → ∀ b, cl.lt b = true → cl'.lt b = true) (hnt : ∀ x q, cl ≠ .tab x q) :
    SR tl B n0 A env (m.put n cl' pure) (pe.set j (.own c')) s := by
  obtain ⟨n', cl0, q1, q2, q3, q4, q5, q6⟩ := h.own j c e
  rw [hw] at q1
  cases q1
  have mv : ∀ k c, Has m k c → k ∉ A → Has (m.put n cl' pure) k c ∧ k ∉ A := fun k c hk hn' => ⟨hk.put fun z => hn' (by rw [← z]; exact q2), hn'⟩
  refine ⟨h.wf.put hh r.lt hp, by rw [put_len]; exact h.le, by simp [h.len], fun k y e1 => ?_, fun k e1 => ?_, fun k c1 e1 => ?_, fun k k' c1 c2 n' e1 e2 e3 e4 => ?_, ?_, fun k hk => by rw [put_len]; exact h.alt k hk, fun p hp => ?_⟩
  · rcases set_cases e1 with ⟨rfl, hl, ey⟩ | ⟨hne, e1⟩
    · cases ey
    · obtain ⟨w', p1, p2⟩ := h.val k y e1
      exact ⟨w', p1, p2.mv mv⟩
  · rcases set_cases e1 with ⟨rfl, hl, ey⟩ | ⟨hne, e1⟩
    · cases ey
    · exact h.bagv k e1
  · rcases set_cases e1 with ⟨rfl, hl, ey⟩ | ⟨hne, e1⟩
    · cases ey
      exact ⟨n, cl', hw, q2, q3, q4, has_put hh.lt, r.mv mv⟩
    · obtain ⟨k', cl2, p1, p2, p3, p4, p5, p6⟩ := h.own k c1 e1
      refine ⟨k', cl2, p1, p2, p3, p4, p5.put fun z => ?_, p6.mv mv⟩
      subst z
      exact hne (h.dst k j c1 c n e1 e p1 hw)
  · have key : ∀ {k : Nat} {c1 : Co}, (pe.set j (.own c'))[k]? = some (.own c1) → ∃ c2, pe[k]? = some (.own c2) := fun {k c1} e1 => by
      rcases set_cases e1 with ⟨rfl, hl, ey⟩ | ⟨hne, e1⟩
      · exact ⟨c, e⟩
      · exact ⟨c1, e1⟩
    obtain ⟨d1, g1⟩ := key e1
    obtain ⟨d2, g2⟩ := key e2
    exact h.dst k k' d1 d2 n' g1 g2 e3 e4
  · have hb := h.bag
    cases B with
    | none => trivial
    | some p =>
      obtain ⟨i, r'⟩ := p
      refine ⟨hb.1, hb.2.1, hb.2.2.1, hb.2.2.2.1.put fun z => q4 (by rw [z]; exact List.mem_cons_self), hb.2.2.2.2.1.put fun z => q4 (by rw [z]; exact List.mem_cons_of_mem _ List.mem_cons_self), hb.2.2.2.2.2⟩
  · obtain ⟨k, hk⟩ := h.tab p hp
    refine ⟨k, hk.put fun z => ?_⟩
    subst z
    have := hh.inj hk
    exact hnt _ _ this
end
def forgetP : List Nat → PEnv → PEnv
  | [], e => e
  | i :: r, e => (forgetP r e).set i .no
mutual
def putP : Tg → PyData → PEnv → Option PEnv
  | .name i, x, e => some (e.set i (.d x))
  | .tup ts, x, e => match x with
    | .tuple xs => putPs ts xs e
    | _ => none
def putPs : List Tg → List PyData → PEnv → Option PEnv
  | [], [], e => some e
  | t :: ts, x :: xs, e => (putP t x e).bind fun e => putPs ts xs e
  | _, _, _ => none
end
section
variable {tl : List (Str × Str)} {B : Lo} {n0 b0 b1 : Nat} {A : List Nat} {env : DL.Env} {m m' m1 : Mm} {pe : PEnv} {s s' : Bg}
theorem SR.forget (h : SR tl B n0 A env m pe s) : ∀ is : List Nat, SR tl B n0 A (DL.forget is env) m (forgetP is pe) s
  | [] => h
  | _ :: r => (SR.forget h r).unset
mutual
theorem SR.putT : ∀ (t : Tg) {env : DL.Env} {pe pe' : PEnv} {w : Wd} {x : PyData}, SR tl B n0 A env m pe s → RdA m A w x → putP t x pe = some pe' → ∃ env', t.put w env = some env' ∧ SR tl B n0 A env' m pe' s
  | .name i, env, pe, pe', w, x, h, r, e => by
    cases e
    exact ⟨_, rfl, h.set r⟩
  | .tup ts, env, pe, pe', w, x, h, r, e => by
    unfold putP at e
    split at e
    · obtain ⟨ws, q1, q2⟩ := RdA.tupI r
      obtain ⟨env', g1, g2⟩ := SR.putTs ts h q2 e
      refine ⟨env', ?_, g2⟩
      show (tupOf w).bind (fun ws => Tg.putAll ts ws env) = _
      rw [q1]
      exact g1
    · cases e
theorem SR.putTs : ∀ (ts : List Tg) {env : DL.Env} {pe pe' : PEnv} {ws : List Wd} {xs : List PyData}, SR tl B n0 A env m pe s → RdsA m A ws xs → putPs ts xs pe = some pe' → ∃ env', Tg.putAll ts ws env = some env' ∧ SR tl B n0 A env' m pe' s
  | [], env, pe, pe', _, _, h, .nil, e => by cases e; exact ⟨_, rfl, h⟩
  | t :: ts, env, pe, pe', _, _, h, .cons r rs, e => by
    obtain ⟨pe1, e1, e2⟩ := Option.bind_eq_some_iff.mp (show (putP t _ pe).bind (fun e => putPs ts _ e) = some pe' from e)
    obtain ⟨env1, g1, g2⟩ := SR.putT t h r e1
    obtain ⟨env2, g3, g4⟩ := SR.putTs ts g2 rs e2
    refine ⟨env2, ?_, g4⟩
    show (Tg.put t _ env).bind (fun env => Tg.putAll ts _ env) = _
    rw [g1]
    exact g3
  | [], env, pe, pe', _, _, h, .cons r rs, e => by cases e
  | t :: ts, env, pe, pe', _, _, h, .nil, e => by cases e
end
end
/-! ### what is walked -/
structure PIt where
  xs : List PyData
  free : Bool
def RelI (B : Lo) (A : List Nat) (m : Mm) (p : PIt) (q : List Wd × Gd) : Prop := RdsA m A q.1 p.xs ∧ (q.2 = [] ∨ ∃ n us, q.2 = [(n, .lst us)] ∧ Has m n (.lst us) ∧ n ∉ bagC B ∧ (p.free = true → n ∉ A))
abbrev SimI (tl : List (Str × Str)) (g : Pe PIt) (f : Em (List Wd × Gd)) : Prop := SimG tl (fun _ _ B A _ m p q => RelI B A m p q) g f
def itP : PV → Option PIt
  | .d (.tuple xs) => some ⟨xs, true⟩
  | .d (.list xs) => some ⟨xs, true⟩
  | .fr (.l xs) => some ⟨xs, true⟩
  | .bo _ (.l xs) => some ⟨xs, false⟩
  | .d (.str x) => some ⟨x.cps.toList.map fun c => .str ⟨#[c]⟩, true⟩
  | _ => none
def piV (f : Pe PV) : Pe PIt := fun e s => (f e s).bind fun w s => PR.of (itP w) s
def intsP' (lo : Int) (n : Nat) : List PyData := (List.range n).map fun (k : Nat) => .int (lo + k)
def ran1P : List PV → Option PIt
  | [.d (.int j)] => if range62 j = true then some ⟨intsP' 0 j.toNat, true⟩ else none
  | _ => none
def ran2P : List PV → Option PIt
  | [.d (.int i), .d (.int j)] => if (range62 i && range62 j) = true then some ⟨intsP' i (j - i).toNat, true⟩ else none
  | _ => none
def piR1 (f : Pe (List PV)) : Pe PIt := fun e s => (f e s).bind fun w s => PR.of (ran1P w) s
def piR2 (f : Pe (List PV)) : Pe PIt := fun e s => (f e s).bind fun w s => PR.of (ran2P w) s
section
variable {tl : List (Str × Str)} {B : Lo} {n0 b0 b1 : Nat} {A : List Nat} {env : DL.Env} {m m' m1 : Mm} {pe : PEnv} {s s' : Bg} {g : Pe PV} {f : Em Wd}
theorem rds_chars {l : List Nat} : RdsA m A (l.map fun c => .d (.str ⟨#[c]⟩)) (l.map fun c => .str ⟨#[c]⟩) := by
  induction l with
  | nil => exact .nil
  | cons a l ih => exact .cons (.d rfl) ih
theorem rds_from {l : List Nat} {lo : Int} : RdsA m A (l.map fun (k : Nat) => .d (.int (lo + k))) (l.map fun (k : Nat) => .int (lo + k)) := by
  induction l with
  | nil => exact .nil
  | cons a l ih => exact .cons (.d rfl) ih
theorem sim_iV (hg : SimE tl g f) : SimI tl (piV g) (iVal f) := fun B n0 A env m pe s h =>
  (hg B n0 A env m pe s h).bind (fun _ _ _ _ _ _ h => h) fun v w m1 s1 f1 w1 b1 r1 => by
    have h1 := h.step f1 w1 b1
    unfold itP
    split
    · rename_i xs
      have r1' : RdA m1 A w (.tuple xs) := r1
      cases r1' with
      | d h => exact relE_of h1 (.inl rfl) ⟨rdsA_d h, .inl rfl⟩
      | tup hs => exact relE_of h1 (.inl rfl) ⟨hs, .inl rfl⟩
    · rename_i xs
      obtain ⟨n, us, e, hh, hn, hs⟩ := RdA.lstI r1
      subst e
      simp only [show m1.cells[n]? = some (.lst us) from hh]
      exact relE_of h1 (.inl rfl) ⟨hs, .inr ⟨n, us, rfl, hh, fun z => hn (h.bag.sub _ z), fun _ => hn⟩⟩
    · rename_i xs
      obtain ⟨n, cl, e, _, hn, hh, hc⟩ := r1
      cases cl with
      | lst us =>
        subst e
        simp only [show m1.cells[n]? = some (.lst us) from hh]
        exact relE_of h1 (.inl rfl) ⟨RdC.dropA hc, .inr ⟨n, us, rfl, hh, fun z => hn (h.bag.sub _ z), fun _ => hn⟩⟩
      | _ => exact hc.elim
    · rename_i i xs
      obtain ⟨n, cl, e1, _, _, h3, h4, h5⟩ := h1.own _ _ r1.1
      have e2 := r1.2.symm.trans e1
      cases e2
      cases cl with
      | lst us =>
        simp only [show m1.cells[n]? = some (.lst us) from h4]
        exact relE_of h1 (.inl rfl) ⟨h5, .inr ⟨n, us, rfl, h4, fun z => h3 (bagC_A z), fun z => by cases z⟩⟩
      | _ => exact h5.elim
    · rename_i x
      rw [RdA.flat r1 rfl]
      exact relE_of h1 (.inl rfl) ⟨rds_chars, .inl rfl⟩
    · trivial
theorem sim_iR1 {ga : Pe (List PV)} {fa : Em (List Wd)} (ha : SimA tl ga fa) : SimI tl (piR1 ga) (iRan1 fa) := fun B n0 A env m pe s h =>
  (ha B n0 A env m pe s h).bind (fun _ _ _ _ _ _ h => h) fun v w m1 s1 f1 w1 b1 r1 => by
    have h1 := h.step f1 w1 b1
    unfold ran1P
    split
    · rename_i j
      obtain ⟨w', q, r2⟩ := vrs1 h.bag.sub r1
      subst q
      rw [RdA.flat r2 rfl]
      by_cases hj : range62 j = true
      · simp only [hj, if_true]
        exact relE_of h1 (.inl rfl) ⟨rds_from, .inl rfl⟩
      · simp only [hj]; trivial
    · trivial
theorem sim_iR2 {ga : Pe (List PV)} {fa : Em (List Wd)} (ha : SimA tl ga fa) : SimI tl (piR2 ga) (iRan2 fa) := fun B n0 A env m pe s h =>
  (ha B n0 A env m pe s h).bind (fun _ _ _ _ _ _ h => h) fun v w m1 s1 f1 w1 b1 r1 => by
    have h1 := h.step f1 w1 b1
    unfold ran2P
    split
    · rename_i i j
      obtain ⟨w', w'', q, r2, r3⟩ := vrs2 h.bag.sub r1
      subst q
      rw [RdA.flat r2 rfl, RdA.flat r3 rfl]
      by_cases hj : (range62 i && range62 j) = true
      · simp only [hj, if_true]
        exact relE_of h1 (.inl rfl) ⟨rds_from, .inl rfl⟩
      · simp only [hj]; trivial
    · trivial
end
/-! ### comprehensions -/
def plcL (t : Tg) (c : Pe Bool) (f : Pe PV) (e0 : PEnv) : List PyData → List PyData → Bg → PR (List PyData)
  | [], acc, s => .ok acc s
  | x :: xs, acc, s => match putP t x e0 with
    | none => .stuck
    | some e => (c e s).bind fun b s => if b = true then (f e s).bind fun v s => (match frz v with
      | some y => if acc.length < LIM then plcL t c f e0 xs (acc ++ [y]) s else .stuck
      | none => .stuck) else plcL t c f e0 xs acc s
def pLc (g : Pe PIt) (t : Tg) (c : Pe Bool) (f : Pe PV) (own : List Nat) : Pe PV := fun e s => (g e s).bind fun p s => match plcL t c f (forgetP own e) p.xs [] s with
  | .ok xs s => .ok (.fr (.l xs)) s
  | _ => .stuck
section
variable {tl : List (Str × Str)}
theorem sim_lcL {t : Tg} {c : Pe Bool} {f : Pe PV} {c' : Em Bool} {f' : Em Wd} (hc : SimT tl c c') (hf : SimE tl f f') {B : Lo} {n0 : Nat} {A : List Nat} {e0 : DL.Env} {pe0 : PEnv} {gd : Gd} {k : Bool} :
    ∀ (xs : List PyData) (ws : List Wd) (acc : List PyData) (accW : List Wd) (m : Mm) (s : Bg), SR tl B n0 A e0 m pe0 s → RdsA m A ws xs → RdsA m A accW acc → (gd = [] ∨ ∃ n us, gd = [(n, .lst us)] ∧ Has m n (.lst us) ∧ n ∉ bagC B) →
      (match plcL t c f pe0 xs acc s with
        | .ok ys s' => ∃ us m', lcL t c' f' gd e0 ws accW m = .ok us m' ∧ Fr (bagC B) m m' ∧ WF m' ∧ BagR B A m' s' ∧ RdsA m' A us ys
        | _ => True) := by
  intro xs
  induction xs with
  | nil =>
    intro ws acc accW m s h hw ha hg
    cases hw
    refine ⟨accW, m, ?_, .refl, h.wf, h.bag, ha⟩
    unfold lcL
    refine if_pos ?_
    rcases hg with e | ⟨n, us, e, hh, _⟩
    · rw [e]; exact gdOk_nil
    · rw [e]; exact gdOk_one hh
  | cons x xs ih =>
    intro ws acc accW m s h hw ha hg
    cases hw with
    | @cons w ws _ _ hx hxs =>
      have gd1 : gdOk gd m = true := by
        rcases hg with e | ⟨n, us, e, hh, _⟩
        · rw [e]; exact gdOk_nil
        · rw [e]; exact gdOk_one hh
      unfold plcL
      cases e : putP t x pe0 with
      | none => simp only [e]
      | some pe1 =>
        simp only [e]
        obtain ⟨env1, q1, h1⟩ := SR.putT t h hx e
        have cc := hc B n0 A env1 m pe1 s h1
        cases ec : c pe1 s with
        | stuck => trivial
        | exc _ _ => trivial
        | ok b s1 =>
          rw [ec] at cc
          obtain ⟨b', m1, e1, f1, w1, bg1, rfl⟩ := cc
          have hg1 : ∀ {m'}, Fr (bagC B) m m' → (gd = [] ∨ ∃ n us, gd = [(n, .lst us)] ∧ Has m' n (.lst us) ∧ n ∉ bagC B) := fun f => by
            rcases hg with e | ⟨n, us, e, hh, hn⟩
            · exact .inl e
            · exact .inr ⟨n, us, e, f.has hh hn, hn⟩
          have hB := h.bag.sub
          have unf : lcL t c' f' gd e0 (w :: ws) accW m = ((c' env1 m).bind fun b m => if b = true then (f' env1 m).bind fun x m => (if accW.length < LIM then lcL t c' f' gd e0 ws (accW ++ [x]) m else .stuck) else lcL t c' f' gd e0 ws accW m) := by
            rw [lcL, if_pos gd1, q1]
          rw [unf, e1]
          simp only [PR.bind_ok, Rs.bind_ok]
          cases b with
          | false =>
            have := ih ws acc accW m1 s1 (h.step f1 w1 bg1) (hxs.fr hB f1) (ha.fr hB f1) (hg1 f1)
            simp only [Bool.false_eq_true, if_false]
            split at this
            · obtain ⟨us, m', g1, g2, g3⟩ := this
              exact ⟨us, m', g1, f1.trans g2, g3⟩
            · trivial
          | true =>
            simp only [if_true]
            have ff := hf B n0 A env1 m1 pe1 s1 (h1.step f1 w1 bg1)
            cases ef : f pe1 s1 with
            | stuck => trivial
            | exc _ _ => trivial
            | ok v s2 =>
              rw [ef] at ff
              obtain ⟨wv, m2, e2, f2, w2, bg2, rv⟩ := ff
              rw [e2]
              simp only [PR.bind_ok, Rs.bind_ok]
              cases ev : frz v with
              | none => trivial
              | some y =>
                simp only []
                have hy := frz_ok rv ev
                have f12 := f1.trans f2
                have ha2 := ha.fr hB f12
                by_cases hl : acc.length < LIM
                · rw [if_pos hl, if_pos (by rw [ha2.length]; exact hl)]
                  have := ih ws (acc ++ [y]) (accW ++ [wv]) m2 s2 (h.step f12 w2 bg2) (hxs.fr hB f12) (ha2.append (.cons hy .nil)) (hg1 f12)
                  split at this
                  · obtain ⟨us, m', g1, g2, g3⟩ := this
                    exact ⟨us, m', g1, f12.trans g2, g3⟩
                  · trivial
                · rw [if_neg hl]; trivial
theorem sim_Lc {g : Pe PIt} {g' : Em (List Wd × Gd)} {t : Tg} {c : Pe Bool} {f : Pe PV} {c' : Em Bool} {f' : Em Wd} {own : List Nat} (hg : SimI tl g g') (hc : SimT tl c c') (hf : SimE tl f f') : SimE tl (pLc g t c f own) (eLc g' t c' f' own) := fun B n0 A env m pe s h =>
  (hg B n0 A env m pe s h).bind baseV fun p q m1 s1 f1 w1 b1 r1 => by
    have h1 := h.step f1 w1 b1
    have key := sim_lcL hc hf (t := t) (k := true) (gd := q.2) p.xs q.1 [] [] m1 s1 (h1.forget own) r1.1 .nil (by
      rcases r1.2 with e | ⟨n, us, e, a, b, _⟩
      · exact .inl e
      · exact .inr ⟨n, us, e, a, b⟩)
    split at key
    · rename_i ys s2 e
      obtain ⟨us, m2, e2, f2, w2, bg2, r2⟩ := key
      rw [e2]
      have h2 := h1.step f2 w2 bg2
      have r : RdC m2 A (.lst us) (.l ys) := r2
      have nx : Nx m2 (m2.push (.lst us)) := nx_new r
      exact ⟨_, _, rfl, f2.trans nx.fr0.any, nx.wf w2, bg2.fr0 nx.fr0, fr_new h2 r f2.le⟩
    · trivial
end
end PD
set_option Elab.async false
set_option linter.all false
set_option maxRecDepth 100000
set_option maxHeartbeats 2000000
namespace PD
open PySem PySem.Spec PyProof.Rows L2 DL
/-! ### statements -/
structure St (B : Lo) (n0 : Nat) (A : List Nat) (m : Mm) (A' : List Nat) (m' : Mm) : Prop where
  le : m.cells.length ≤ m'.cells.length
  old : ∀ k, k < n0 → k ∉ bagC B → m'.cells[k]? = m.cells[k]?
  fix : ∀ k, k < m.cells.length → k ∉ A → m'.cells[k]? = m.cells[k]?
  sub : ∀ k ∈ A', k ∈ A ∨ m.cells.length ≤ k
  sup : ∀ k ∈ A, k < n0 → k ∈ A'
section
variable {tl : List (Str × Str)} {B : Lo} {n0 b0 b1 : Nat} {A A' A2 : List Nat} {env : DL.Env} {m m' m1 m2 : Mm} {pe : PEnv} {s s' : Bg}
theorem St.refl : St B n0 A m A m := ⟨Nat.le_refl _, fun _ _ _ => rfl, fun _ _ _ => rfl, fun _ h => .inl h, fun _ h _ => h⟩
theorem St.trans (a : St B n0 A m A' m') (b : St B n0 A' m' A2 m2) : St B n0 A m A2 m2 := by
  refine ⟨Nat.le_trans a.le b.le, fun k h hn => (b.old k h hn).trans (a.old k h hn), fun k h hn => ?_, fun k h => ?_, fun k h hk => b.sup k (a.sup k h hk) hk⟩
  · refine (b.fix k (Nat.lt_of_lt_of_le h a.le) fun z => ?_).trans (a.fix k h hn)
    rcases a.sub k z with z | z
    · exact hn z
    · omega
  · rcases b.sub k h with h | h
    · exact a.sub k h
    · exact .inr (Nat.le_trans a.le h)
theorem St.fr (hB : ∀ k ∈ bagC B, k ∈ A) (hn : n0 ≤ m.cells.length) (f : Fr (bagC B) m m') : St B n0 A m A m' :=
  ⟨f.le, fun k h hk => f.eq k (Nat.lt_of_lt_of_le h hn) hk, fun k h hk => f.eq k h fun z => hk (hB k z), fun _ h => .inl h, fun _ h _ => h⟩
end
def RelF (tl : List (Str × Str)) (B : Lo) (n0 : Nat) (A' : List Nat) (env' : DL.Env) (m' : Mm) (pe' : PEnv) (s' : Bg) : PFl → Fl → Prop
  | .nx, .nx => SR tl B n0 A' env' m' pe' s'
  | .bk, .bk => SR tl B n0 A' env' m' pe' s'
  | .ct, .ct => SR tl B n0 A' env' m' pe' s'
  | .rt v, .rt w => WF m' ∧ BagR B A' m' s' ∧ VR [] [] B A' n0 m' v w
  | _, _ => False
def RelS (tl : List (Str × Str)) (B : Lo) (n0 : Nat) (A : List Nat) (m : Mm) : PS → Sr → Prop
  | .go fl pe' s', r => ∃ fl' env' m' A', r = .go fl' env' m' ∧ St B n0 A m A' m' ∧ RelF tl B n0 A' env' m' pe' s' fl fl'
  | .exc x pe' s', r => ∃ x' env' m' A', r = .exc x' env' m' ∧ St B n0 A m A' m' ∧ SR tl B n0 A' env' m' pe' s' ∧ XR m' A' x x'
  | .stuck, _ => True
def SimS (tl : List (Str × Str)) (g : Ps) (f : Sm) : Prop := ∀ (B : Lo) (n0 : Nat) (A : List Nat) (env : DL.Env) (m : Mm) (pe : PEnv) (s : Bg), SR tl B n0 A env m pe s → RelS tl B n0 A m (g pe s) (f env m)
def prs {α : Type} (r : PR α) (pe : PEnv) (k : α → Bg → PS) : PS := match r with
  | .ok v s => k v s
  | .exc x s => .exc x pe s
  | .stuck => .stuck
@[simp] theorem prs_ok {α : Type} (v : α) (s : Bg) (pe : PEnv) (k : α → Bg → PS) : prs (.ok v s) pe k = k v s := rfl
@[simp] theorem prs_exc {α : Type} (v : PEx) (s : Bg) (pe : PEnv) (k : α → Bg → PS) : prs (.exc v s) pe k = .exc v pe s := rfl
@[simp] theorem prs_stuck {α : Type} (pe : PEnv) (k : α → Bg → PS) : prs .stuck pe k = .stuck := rfl
section
variable {tl : List (Str × Str)} {B : Lo} {n0 b0 b1 : Nat} {A A' A2 : List Nat} {env : DL.Env} {m m' m1 m2 : Mm} {pe : PEnv} {s s' : Bg}
theorem RelS.pre (st : St B n0 A m A' m') {r : PS} {R : Sr} (h : RelS tl B n0 A' m' r R) : RelS tl B n0 A m r R := by
  cases r with
  | go fl pe' s' => obtain ⟨fl', env', m2, A2, e, s2, r⟩ := h; exact ⟨fl', env', m2, A2, e, st.trans s2, r⟩
  | exc x pe' s' => obtain ⟨x', env', m2, A2, e, s2, r⟩ := h; exact ⟨x', env', m2, A2, e, st.trans s2, r⟩
  | stuck => trivial
theorem relS_rs {α β : Type} {rel : Nat → Mm → α → β → Prop} {r : PR α} {R : Rs β} {k : α → Bg → PS} {K : β → Mm → Sr} (h0 : SR tl B n0 A env m pe s) (h : RelE rel B A m r R)
    (hk : ∀ v w m' s', Fr (bagC B) m m' → WF m' → BagR B A m' s' → rel m.cells.length m' v w → RelS tl B n0 A m' (k v s') (K w m')) : RelS tl B n0 A m (prs r pe k) (rs R env K) := by
  cases r with
  | stuck => trivial
  | ok v s' =>
    obtain ⟨w, m', e, f, wf, b, r⟩ := h
    subst e
    exact (hk v w m' s' f wf b r).pre (.fr h0.bag.sub h0.le f)
  | exc x s' =>
    obtain ⟨x', m', e, f, wf, b, r⟩ := h
    subst e
    exact ⟨x', env, m', A, rfl, .fr h0.bag.sub h0.le f, h0.step f wf b, r⟩
theorem relS_rs0 {α β : Type} {rel : Nat → Mm → α → β → Prop} {r : PR α} {R : Rs β} {k : α → Bg → PS} {K : β → Mm → Sr} (h0 : SR tl B n0 A env m pe s) (h : RelE rel B A m r R)
    (hk : ∀ v w m' s', Fr (bagC B) m m' → WF m' → BagR B A m' s' → rel m.cells.length m' v w → RelS tl B n0 A m (k v s') (K w m')) : RelS tl B n0 A m (prs r pe k) (rs R env K) := by
  cases r with
  | stuck => trivial
  | ok v s' =>
    obtain ⟨w, m', e, f, wf, b, r⟩ := h
    subst e
    exact hk v w m' s' f wf b r
  | exc x s' =>
    obtain ⟨x', m', e, f, wf, b, r⟩ := h
    subst e
    exact ⟨x', env, m', A, rfl, .fr h0.bag.sub h0.le f, h0.step f wf b, r⟩
theorem relS_nx (h : SR tl B n0 A env m pe s) : RelS tl B n0 A m (.go .nx pe s) (.go .nx env m) := ⟨.nx, env, m, A, rfl, .refl, h⟩
end
def pSeq (f g : Ps) : Ps := fun e s => match f e s with
  | .go .nx e s => g e s
  | r => r
def pNop : Ps := fun e s => .go .nx e s
def pDrop (f : Pe PV) : Ps := fun e s => prs (f e s) e fun _ s => .go .nx e s
def retV : PV → Option PV
  | .d x => some (.d x)
  | .fr c => some (.fr c)
  | .bo _ c => some (.fr c)
  | .bag => none
def pRet (f : Pe PV) : Ps := fun e s => prs (f e s) e fun v s => match retV v with
  | some v => .go (.rt v) e s
  | none => .stuck
def pRetN : Ps := fun e s => .go (.rt (.d .none)) e s
def pBk : Ps := fun e s => .go .bk e s
def pCt : Ps := fun e s => .go .ct e s
def pIfS (c : Pe Bool) (f g : Ps) : Ps := fun e s => prs (c e s) e fun b s => if b = true then f e s else g e s
/-- a slot gets a value, to be changed later perhaps -/
def setV (i : Nat) (v : PV) (e : PEnv) : Option PEnv := match v with
  | .d x => some (e.set i (.d x))
  | .fr c => some (e.set i (.own c))
  | .bo j c => some ((e.set j (.d c.toD)).set i (.d c.toD))
  | .bag => none
/-- a slot gets data -/
def setF (i : Nat) (v : PV) (e : PEnv) : Option PEnv := (frz v).map fun x => e.set i (.d x)
def pSet (i : Nat) (f : Pe PV) : Ps := fun e s => prs (f e s) e fun v s => match setV i v e with
  | some e => .go .nx e s
  | none => .stuck
def pSetF (i : Nat) (f : Pe PV) : Ps := fun e s => prs (f e s) e fun v s => match setF i v e with
  | some e => .go .nx e s
  | none => .stuck
/-- what slot j alone has is data from here on -/
def pFz (j : Nat) (g : Ps) : Ps := fun e s => match e[j]? with
  | some (.own c) => g (e.set j (.d c.toD)) s
  | _ => g e s
def pAsg (t : Tg) (f : Pe PV) : Ps := fun e s => prs (f e s) e fun v s => match frz v with
  | some x => match putP t x e with
    | some e => .go .nx e s
    | none => .stuck
  | none => .stuck
def pAug (i : Nat) (p : PV → PV → Option PV) (f : Pe PV) : Ps := fun e s => match e[i]? with
  | some (.d x) => prs (f e s) e fun y s => match p (.d x) y with
    | some v => match setF i v e with
      | some e => .go .nx e s
      | none => .stuck
    | none => .stuck
  | _ => .stuck
section
variable {tl : List (Str × Str)} {B : Lo} {n0 b0 b1 : Nat} {A A' A2 : List Nat} {env : DL.Env} {m m' m1 m2 : Mm} {pe : PEnv} {s s' : Bg}
variable {g ga gb gc : Pe PV} {f fa fb fc : Em Wd} {t t' : Pe Bool} {c c' : Em Bool} {p q : Ps} {P Q : Sm}
theorem sim_seq (h1 : SimS tl p P) (h2 : SimS tl q Q) : SimS tl (pSeq p q) (sSeq P Q) := fun B n0 A env m pe s h => by
  have r1 := h1 B n0 A env m pe s h
  unfold pSeq sSeq
  cases e : p pe s with
  | stuck => simp only [e]; trivial
  | exc x pe' s' =>
    rw [e] at r1
    obtain ⟨x', env', m', A', e1, r⟩ := r1
    rw [e1]
    exact ⟨x', env', m', A', rfl, r⟩
  | go fl pe' s' =>
    rw [e] at r1
    obtain ⟨fl', env', m', A', e1, st, r⟩ := r1
    rw [e1]
    cases fl with
    | nx =>
      cases fl' with
      | nx => exact (h2 B n0 A' env' m' pe' s' r).pre st
      | _ => exact r.elim
    | bk =>
      cases fl' with
      | bk => exact ⟨_, env', m', A', rfl, st, r⟩
      | _ => exact r.elim
    | ct =>
      cases fl' with
      | ct => exact ⟨_, env', m', A', rfl, st, r⟩
      | _ => exact r.elim
    | rt v =>
      cases fl' with
      | rt w => exact ⟨_, env', m', A', rfl, st, r⟩
      | _ => exact r.elim
theorem sim_nop : SimS tl pNop sNop := fun B n0 A env m pe s h => relS_nx h
theorem sim_drop (ha : SimE tl ga fa) : SimS tl (pDrop ga) (sDrop fa) := fun B n0 A env m pe s h =>
  relS_rs h (ha B n0 A env m pe s h) fun v w m1 s1 f1 w1 b1 r1 => relS_nx (h.step f1 w1 b1)
theorem VR.nil {v : PV} {w : Wd} (h : VR pe env B A b0 m v w) (hv : ∀ i c, v ≠ .bo i c) : VR [] [] B A b0 m v w := by
  cases v with
  | bo i c => exact absurd rfl (hv i c)
  | _ => exact h
theorem ret_ok {v v' : PV} {w : Wd} (h : SR tl B n0 A env m pe s) (r : VR pe env B A n0 m v w) (e : retV v = some v') : ∃ A', St B n0 A m A' m ∧ BagR B A' m s ∧ VR [] [] B A' n0 m v' w := by
  cases v with
  | d x => cases e; exact ⟨A, .refl, h.bag, r⟩
  | fr c => cases e; exact ⟨A, .refl, h.bag, r⟩
  | bag => cases e
  | bo i c =>
    cases e
    obtain ⟨n, cl, e1, h1, h2, h3, h4, h5⟩ := h.own _ _ r.1
    have e2 := r.2.symm.trans e1
    cases e2
    refine ⟨A.filter (· ≠ n), ⟨Nat.le_refl _, fun _ _ _ => rfl, fun _ _ _ => rfl, fun k hk => .inl (List.mem_filter.mp hk).1, fun k hk hk2 => List.mem_filter.mpr ⟨hk, by simp; omega⟩⟩,
      h.bag.setA fun k hk hA => List.mem_filter.mpr ⟨hA, by simp; exact fun z => h3 (by rw [← z]; exact hk)⟩, n, cl, rfl, h2, by simp, h4, h5.mv fun k c hk hn => ⟨hk, fun z => ?_⟩⟩
    rcases List.mem_cons.mp z with z | z
    · exact hn (by rw [z]; exact h1)
    · exact hn (List.mem_filter.mp z).1
theorem sim_ret (ha : SimE tl ga fa) : SimS tl (pRet ga) (sRet fa) := fun B n0 A env m pe s h =>
  relS_rs h (ha B n0 A env m pe s h) fun v w m1 s1 f1 w1 b1 r1 => by
    have h1 := h.step f1 w1 b1
    cases e : retV v with
    | none => trivial
    | some v' =>
      obtain ⟨A', st, b2, r2⟩ := ret_ok h1 (r1.base h.le) e
      exact ⟨.rt w, env, m1, A', rfl, st, w1, b2, r2⟩
theorem sim_retN : SimS tl pRetN sRetN := fun B n0 A env m pe s h => ⟨.rt (.d .none), env, m, A, rfl, .refl, h.wf, h.bag, .d rfl⟩
theorem sim_bk : SimS tl pBk sBk := fun B n0 A env m pe s h => ⟨.bk, env, m, A, rfl, .refl, h⟩
theorem sim_ct : SimS tl pCt sCt := fun B n0 A env m pe s h => ⟨.ct, env, m, A, rfl, .refl, h⟩
theorem sim_if (hc : SimT tl t c) (h1 : SimS tl p P) (h2 : SimS tl q Q) : SimS tl (pIfS t p q) (sIf c P Q) := fun B n0 A env m pe s h =>
  relS_rs h (hc B n0 A env m pe s h) fun v w m1 s1 f1 w1 b1 r1 => by
    subst r1
    cases v with
    | true => exact h1 B n0 A env m1 pe s1 (h.step f1 w1 b1)
    | false => exact h2 B n0 A env m1 pe s1 (h.step f1 w1 b1)
/-- a slot set, the memory being that behind the value -/
theorem setV_ok (h : SR tl B n0 A env m pe s) (f : Fr (bagC B) m m') (w' : WF m') (b : BagR B A m' s') {i : Nat} {v : PV} {w : Wd} (r : VR pe env B A m.cells.length m' v w) {pe' : PEnv} (e : setV i v pe = some pe') :
    ∃ A', St B n0 A m A' m' ∧ SR tl B n0 A' (env.set i (some w)) m' pe' s' := by
  have h1 := h.step f w' b
  have hB := h.bag.sub
  cases v with
  | d x => cases e; exact ⟨A, .fr hB h.le f, h1.set r⟩
  | bag => cases e
  | fr c =>
    cases e
    obtain ⟨n, cl, e1, g1, g2, g3, g4⟩ := r
    subst e1
    refine ⟨n :: A, ⟨f.le, fun k hk hn => f.eq k (Nat.lt_of_lt_of_le hk h.le) hn, fun k hk hn => f.eq k hk fun z => hn (hB k z), fun k hk => ?_, fun k hk _ => List.mem_cons_of_mem _ hk⟩, h.own' f w' b g1 g2 g3 g4⟩
    rcases List.mem_cons.mp hk with e | hk
    · rw [e]; exact .inr g1
    · exact .inl hk
  | bo j c =>
    cases e
    obtain ⟨n, cl, e1, g1, g2, g3, g4, g5⟩ := h1.own _ _ r.1
    have e2 := r.2.symm.trans e1
    cases e2
    obtain ⟨k1, k2, k3, k4⟩ := h1.freeze r.1 r.2
    refine ⟨_, (St.fr hB h.le f).trans ⟨Nat.le_refl _, fun _ _ _ => rfl, fun _ _ _ => rfl, fun k hk => .inl (List.mem_filter.mp hk).1, fun k hk hk2 => List.mem_filter.mpr ⟨hk, by simp; omega⟩⟩, k1.set k2⟩
theorem sim_set {i : Nat} (ha : SimE tl ga fa) : SimS tl (pSet i ga) (sSet i fa) := fun B n0 A env m pe s h =>
  relS_rs0 h (ha B n0 A env m pe s h) fun v w m1 s1 f1 w1 b1 r1 => by
    cases e : setV i v pe with
    | none => trivial
    | some pe' =>
      obtain ⟨A', st, h2⟩ := setV_ok h f1 w1 b1 r1 e
      exact ⟨.nx, _, m1, A', rfl, st, h2⟩
theorem sim_setF {i : Nat} (ha : SimE tl ga fa) : SimS tl (pSetF i ga) (sSet i fa) := fun B n0 A env m pe s h =>
  relS_rs h (ha B n0 A env m pe s h) fun v w m1 s1 f1 w1 b1 r1 => by
    cases e : setF i v pe with
    | none => trivial
    | some pe' =>
      obtain ⟨x, e1, e2⟩ := Option.map_eq_some_iff.mp e
      subst e2
      exact relS_nx ((h.step f1 w1 b1).set (frz_ok r1 e1))
theorem sim_fz {j : Nat} (h1 : SimS tl p P) : SimS tl (pFz j p) P := fun B n0 A env m pe s h => by
  unfold pFz
  split
  · rename_i c e
    obtain ⟨n, cl, e1, g1, g2, g3, g4, g5⟩ := h.own _ _ e
    obtain ⟨k1, k2, k3, k4⟩ := h.freeze e e1
    exact (h1 B n0 _ env m _ s k1).pre ⟨Nat.le_refl _, fun _ _ _ => rfl, fun _ _ _ => rfl, fun k hk => .inl (List.mem_filter.mp hk).1, fun k hk hk2 => List.mem_filter.mpr ⟨hk, by simp; omega⟩⟩
  · exact h1 B n0 A env m pe s h
theorem sim_asg {t : Tg} (ha : SimE tl ga fa) : SimS tl (pAsg t ga) (sAsg t fa) := fun B n0 A env m pe s h =>
  relS_rs h (ha B n0 A env m pe s h) fun v w m1 s1 f1 w1 b1 r1 => by
    cases e : frz v with
    | none => simp only [e]; trivial
    | some x =>
      simp only [e]
      cases e2 : putP t x pe with
      | none => trivial
      | some pe' =>
        obtain ⟨env', q1, q2⟩ := SR.putT t (h.step f1 w1 b1) (frz_ok r1 e) e2
        rw [q1]
        exact relS_nx q2
theorem sim_aug {i : Nat} {o : Op2} {p : PV → PV → Option PV} (ho : Op2Ok o p) (ha : SimE tl ga fa) : SimS tl (pAug i p ga) (sAug i o fa) := fun B n0 A env m pe s h => by
  unfold pAug sAug
  split
  · rename_i x e
    obtain ⟨w0, e0, r0⟩ := h.val i x e
    rw [e0]
    refine relS_rs h (ha B n0 A env m pe s h) fun v w m1 s1 f1 w1 b1 r1 => ?_
    have h1 := h.step f1 w1 b1
    cases e2 : p (.d x) v with
    | none => simp only [e2]; trivial
    | some v' =>
      simp only [e2]
      have r0' : VR pe env B A 0 m1 (.d x) w0 := r0.fr h.bag.sub f1
      obtain ⟨w3, m3, q1, nx, r3⟩ := ho h1 r0' (r1.base (Nat.zero_le _)) e2
      rw [q1]
      cases e3 : setF i v' pe with
      | none => trivial
      | some pe' =>
        obtain ⟨y, e4, e5⟩ := Option.map_eq_some_iff.mp e3
        subst e5
        have f3 : Fr (bagC B) m1 m3 := nx.fr0.any
        have h3 := h1.step f3 (nx.wf h1.wf) (h1.bag.fr0 nx.fr0)
        exact (relS_nx (h3.set (frz_ok r3 e4))).pre (.fr h.bag.sub h1.le f3)
  · trivial
end
/-! ### several slots at once -/
/-- own: which of them may change later -/
def thaw : List Bool → List PV → Option (List PV)
  | [], [] => some []
  | b :: bs, v :: vs => match v with
    | .fr c => (thaw bs vs).map fun r => (if b = true then .fr c else .d c.toD) :: r
    | .d x => (thaw bs vs).map fun r => .d x :: r
    | _ => none
  | _, _ => none
def setsP : List Nat → List PV → PEnv → Option PEnv
  | [], [], e => some e
  | i :: is, v :: vs, e => match v with
    | .d x => setsP is vs (e.set i (.d x))
    | .fr c => setsP is vs (e.set i (.own c))
    | _ => none
  | _, _, _ => none
def pPar (is : List Nat) (own : List Bool) (f : Pe (List PV)) : Ps := fun e s => prs (f e s) e fun vs s => match thaw own vs with
  | some vs => match setsP is vs e with
    | some e => .go .nx e s
    | none => .stuck
  | none => .stuck
/-- the cells of those that may change -/
def growO (A : List Nat) : List Bool → List PV → List Wd → List Nat
  | b :: bs, v :: vs, w :: ws => growO (if b = true then grow A v w else A) bs vs ws
  | _, _, _ => A
section
variable {tl : List (Str × Str)} {B : Lo} {n0 b0 b1 : Nat} {A A' A2 : List Nat} {env env0 : DL.Env} {m m' m1 m2 : Mm} {pe pe0 : PEnv} {s s' : Bg}
/-- a slot gets a cell that is tracked already, and no other slot's -/
theorem SR.setOwn (h : SR tl B n0 A env m pe s) {i n : Nat} {cl : Cell} {c : Co} (hA : n ∈ A) (h0 : n0 ≤ n) (hb : n ∉ bagA B) (hh : Has m n cl) (hc : RdC m A cl c) (hno : ∀ (j : Nat) c', pe[j]? = some (.own c') → env[j]? ≠ some (some (.ref n))) :
    SR tl B n0 A (env.set i (some (.ref n))) m (pe.set i (.own c)) s := by
  refine ⟨h.wf, h.le, by simp [h.len], fun j y e => ?_, fun j e => ?_, fun j c' e => ?_, fun j k c1 c2 n' e1 e2 e3 e4 => ?_, h.bag, h.alt, h.tab⟩
  · rcases set_cases e with ⟨rfl, hl, ey⟩ | ⟨hne, e⟩
    · cases ey
    · obtain ⟨w', q1, q2⟩ := h.val j y e
      exact ⟨w', by rw [set_ne' hne]; exact q1, q2⟩
  · rcases set_cases e with ⟨rfl, hl, ey⟩ | ⟨hne, e⟩
    · cases ey
    · obtain ⟨a, b, q1, q2⟩ := h.bagv j e
      exact ⟨a, b, q1, by rw [set_ne' hne]; exact q2⟩
  · rcases set_cases e with ⟨rfl, hl, ey⟩ | ⟨hne, e⟩
    · cases ey
      exact ⟨n, cl, by rw [List.getElem?_set_self (by rw [h.len]; exact hl)], hA, h0, hb, hh, hc⟩
    · obtain ⟨k, cl', q1, q2⟩ := h.own j c' e
      exact ⟨k, cl', by rw [set_ne' hne]; exact q1, q2⟩
  · rcases set_cases e1 with ⟨ej, hl, ey⟩ | ⟨hj, g1⟩
    · rw [ej, List.getElem?_set_self (by rw [h.len, ← ej]; exact hl)] at e3
      cases e3
      rcases set_cases e2 with ⟨ek, _, _⟩ | ⟨hk, g2⟩
      · rw [ej, ek]
      · rw [set_ne' hk] at e4
        exact absurd e4 (hno k c2 g2)
    · rw [set_ne' hj] at e3
      rcases set_cases e2 with ⟨ek, hl, ey⟩ | ⟨hk, g2⟩
      · rw [ek, List.getElem?_set_self (by rw [h.len, ← ek]; exact hl)] at e4
        cases e4
        exact absurd e3 (hno j c1 g1)
      · rw [set_ne' hk] at e4
        exact h.dst j k c1 c2 n' g1 g2 e3 e4
theorem growO_self : ∀ (own : List Bool) (vs : List PV) (ws : List Wd) (A : List Nat), ∀ k ∈ A, k ∈ growO A own vs ws
  | b :: bs, v :: vs, w :: ws, A, k, hk => growO_self bs vs ws _ k (by
    by_cases hb : b = true
    · rw [if_pos hb]; exact grow_self v w k hk
    · rw [if_neg hb]; exact hk)
  | [], _, _, _, _, hk => hk
  | _ :: _, [], _, _, _, hk => hk
  | _ :: _, _ :: _, [], _, _, hk => hk
/-- what is tracked in the end: what was, or what lies above, and is there -/
theorem growO_above : ∀ (own : List Bool) (vs : List PV) (ws : List Wd) (A A1 : List Nat) (b0 : Nat), VRs pe0 env0 B A b0 m vs ws → ∀ k ∈ growO A1 own vs ws, k ∈ A1 ∨ (b0 ≤ k ∧ k < m.cells.length)
  | b :: bs, v :: vs, w :: ws, A, A1, b0, ⟨m1, h1, h2, h3, h4, h5⟩, k, hk => by
    rcases growO_above bs vs ws _ _ _ h5 k hk with z | z
    · by_cases hb : b = true
      · rw [if_pos hb] at z
        unfold grow at z
        split at z
        · obtain ⟨n, cl, e, g1, g2, g3, g4⟩ := h3
          cases e
          rcases List.mem_cons.mp z with e | z
          · rw [e]; exact .inr ⟨g1, Nat.lt_of_lt_of_le g3.lt h2.le⟩
          · exact .inl z
        · exact .inl z
      · rw [if_neg hb] at z; exact .inl z
    · exact .inr ⟨Nat.le_trans h1 z.1, z.2⟩
  | [], _, _, _, _, _, _, k, hk => .inl hk
  | _ :: _, [], _, _, _, _, _, k, hk => .inl hk
  | _ :: _, _ :: _, [], _, _, _, _, k, hk => .inl hk
theorem sets_ok : ∀ (is : List Nat) (own : List Bool) (vs us : List PV) (ws : List Wd) (A A1 AF : List Nat) (env : DL.Env) (pe pe' : PEnv) (b0 : Nat), VRs pe0 env0 B A b0 m' vs ws → growO A1 own vs ws = AF → (∀ k ∈ A1, k ∈ A) → n0 ≤ b0 → (∀ k ∈ bagA B, k ∈ A) → SR tl B n0 AF env m' pe s →
    (∀ (j : Nat) c n, pe[j]? = some (.own c) → env[j]? = some (some (.ref n)) → n < b0) → thaw own vs = some us → setsP is us pe = some pe' → ∃ env', setsE is ws env = some env' ∧ SR tl B n0 AF env' m' pe' s
  | is, [], [], us, ws, A, A1, AF, env, pe, pe', b0, r, eF, hs, h0, hb, h, hlt, et, es => by
    cases et
    cases ws with
    | cons _ _ => exact r.elim
    | nil =>
      cases is with
      | nil => cases es; exact ⟨env, rfl, h⟩
      | cons _ _ => cases es
  | is, [], _ :: _, us, ws, A, A1, AF, env, pe, pe', b0, r, eF, hs, h0, hb, h, hlt, et, es => by cases et
  | is, _ :: _, [], us, ws, A, A1, AF, env, pe, pe', b0, r, eF, hs, h0, hb, h, hlt, et, es => by cases et
  | is, o :: own, v :: vs, us, ws, A, A1, AF, env, pe, pe', b0, r, eF, hs, h0, hb, h, hlt, et, es => by
    cases ws with
    | nil => exact r.elim
    | cons w ws =>
      obtain ⟨m1, h1, h2, h3, h4, h5⟩ := r
      have hB : ∀ k ∈ bagC B, k ∈ A := fun k hk => hb k (bagC_A hk)
      have hs2 : ∀ k ∈ (if o = true then grow A1 v w else A1), k ∈ grow A v w := fun k hk => by
        by_cases ho : o = true
        · rw [if_pos ho] at hk; exact grow_sub hs v w k hk
        · rw [if_neg ho] at hk; exact grow_self v w k (hs k hk)
      have eF' : growO (if o = true then grow A1 v w else A1) own vs ws = AF := eF
      -- a value of m1 in the end's memory
      have mvA : ∀ {A2 : List Nat}, (∀ k ∈ (if o = true then grow A1 v w else A1), k ∈ A2) → (∀ k ∈ bagC B, k ∈ A2) → ∀ k c, Has m1 k c → k ∉ A2 → Has m' k c ∧ k ∉ AF := fun {A2} g1 g2 k c hk hn => ⟨h2.has hk fun z => hn (g2 k z), fun z => by
        rw [← eF'] at z
        rcases growO_above own vs ws _ _ _ h5 k z with z | z
        · exact hn (g1 k z)
        · have := hk.lt; omega⟩
      have next : ∀ (us' : List PV) (i : Nat) (is' : List Nat) (env1 : DL.Env) (pe1 : PEnv), SR tl B n0 AF env1 m' pe1 s → (∀ (j : Nat) c n, pe1[j]? = some (.own c) → env1[j]? = some (some (.ref n)) → n < m1.cells.length) → thaw own vs = some us' → setsP is' us' pe1 = some pe' →
          env1 = env.set i (some w) → ∃ env', setsE (i :: is') (w :: ws) env = some env' ∧ SR tl B n0 AF env' m' pe' s := fun us' i is' env1 pe1 hh hl2 e1 e2 e3 => by
        obtain ⟨env', q1, q2⟩ := sets_ok is' own vs us' ws _ _ AF env1 pe1 pe' m1.cells.length h5 eF' hs2 (Nat.le_trans h0 h1) (fun k hk => grow_self v w k (hb k hk)) hh hl2 e1 e2
        refine ⟨env', ?_, q2⟩
        show setsE is' ws (env.set i (some w)) = some env'
        rw [← e3]
        exact q1
      have keep : ∀ {i : Nat} {x : PyData} (w' : Wd), ∀ (j : Nat) c n, (pe.set i (.d x))[j]? = some (.own c) → (env.set i (some w'))[j]? = some (some (.ref n)) → n < m1.cells.length := fun {i x} w' j c n e1 e2 => by
        rcases set_cases e1 with ⟨_, _, ey⟩ | ⟨hj, e1⟩
        · cases ey
        · rw [set_ne' hj] at e2
          exact Nat.lt_of_lt_of_le (hlt j c n e1 e2) h1
      cases v with
      | bo _ _ => cases et
      | bag => cases et
      | d x =>
        obtain ⟨us', e1, e2⟩ := Option.map_eq_some_iff.mp (show (thaw own vs).map (fun r => PV.d x :: r) = some us from et)
        subst e2
        cases is with
        | nil => cases es
        | cons i is =>
          have es' : setsP is us' (pe.set i (.d x)) = some pe' := es
          have rd : RdA m' AF w x := RdA.mv (mvA (A2 := A) (fun k hk => by
            have : k ∈ A1 := by
              by_cases ho : o = true
              · rw [if_pos ho] at hk; exact hk
              · rw [if_neg ho] at hk; exact hk
            exact hs k this) hB) h3
          exact next us' i is _ _ (h.set rd) (keep w) e1 es' rfl
      | fr c =>
        obtain ⟨us', e1, e2⟩ := Option.map_eq_some_iff.mp (show (thaw own vs).map (fun r => (if o = true then PV.fr c else .d c.toD) :: r) = some us from et)
        subst e2
        cases is with
        | nil => cases es
        | cons i is =>
          obtain ⟨n, cl, ew, g1, g2, g3, g4⟩ := h3
          subst ew
          by_cases ho : o = true
          · subst ho
            have es' : setsP is us' (pe.set i (.own c)) = some pe' := es
            have hn : n ∈ AF := by rw [← eF']; exact growO_self _ _ _ _ n List.mem_cons_self
            have nB : n ∉ bagA B := fun z => g2 (hb n z)
            have hc : RdC m' AF cl c := g4.mv (mvA (A2 := n :: A) (fun k hk => by
              rcases List.mem_cons.mp (show k ∈ n :: A1 from hk) with e | z
              · rw [e]; exact List.mem_cons_self
              · exact List.mem_cons_of_mem _ (hs k z)) (fun k hk => List.mem_cons_of_mem _ (hB k hk)))
            refine next us' i is _ _ (h.setOwn hn (Nat.le_trans h0 g1) nB (h2.has g3 fun z => nB (bagC_A z)) hc fun j c' e e' => ?_) (fun j c' n' e e' => ?_) e1 es' rfl
            · have := hlt j c' n e e'
              omega
            · rcases set_cases e with ⟨ej, hl, _⟩ | ⟨hj, e⟩
              · rw [ej, List.getElem?_set_self (by rw [h.len, ← ej]; exact hl)] at e'
                cases e'
                exact g3.lt
              · rw [set_ne' hj] at e'
                exact Nat.lt_of_lt_of_le (hlt j c' n' e e') h1
          · have eo : o = false := by simpa using ho
            subst eo
            have es' : setsP is us' (pe.set i (.d c.toD)) = some pe' := es
            have mv1 := mvA (A2 := A) (fun k hk => hs k hk) hB
            have hn : n ∉ AF := (mv1 n cl g3 g2).2
            have rd : RdA m' AF (.ref n) c.toD := .of (h2.has g3 fun z => g2 (hB n z)) hn (g4.dropA.mv mv1)
            exact next us' i is _ _ (h.set rd) (keep _) e1 es' rfl
theorem sim_par {is : List Nat} {own : List Bool} {ga : Pe (List PV)} {fa : Em (List Wd)} (ha : SimA tl ga fa) : SimS tl (pPar is own ga) (sPar is fa) := fun B n0 A env m pe s h =>
  relS_rs0 h (ha B n0 A env m pe s h) fun vs ws m1 s1 f1 w1 b1 r1 => by
    cases e : thaw own vs with
    | none => simp only [e]; trivial
    | some us =>
      simp only [e]
      cases e2 : setsP is us pe with
      | none => trivial
      | some pe' =>
        have ab := growO_above own vs ws A A m.cells.length r1
        have hs := growO_self own vs ws A
        have h1 : SR tl B n0 (growO A own vs ws) env m1 pe s1 := h.growA f1 w1 b1 (fun k hk => (ab k hk).imp id fun z => z.1) hs fun k hk => by
          rcases ab k hk with z | z
          · exact Nat.lt_of_lt_of_le (h.alt k z) f1.le
          · exact z.2
        obtain ⟨env', q1, q2⟩ := sets_ok is own vs us ws A A _ env pe pe' m.cells.length r1 rfl (fun k hk => hk) h.le (bagA_sub h.bag) h1 (fun j c n e1 e2 => by
          obtain ⟨n', cl, e3, _, _, _, g, _⟩ := h.own j c e1
          rw [e2] at e3
          cases e3
          exact g.lt) e e2
        rw [q1]
        have hB := h.bag.sub
        exact ⟨.nx, env', m1, _, rfl, ⟨f1.le, fun k hk hn => f1.eq k (Nat.lt_of_lt_of_le hk h.le) hn, fun k hk hn => f1.eq k hk fun z => hn (hB k z), fun k hk => (ab k hk).imp id fun z => z.1, fun k hk _ => hs k hk⟩, q2⟩
end
/-! ### lists and dicts in slots, in place -/
def pSubS (j : Nat) (gi gv : Pe PV) : Ps := fun e s => match e[j]? with
  | some (.own (.l xs)) => prs (gv e s) e fun v s => prs (gi e s) e fun i s => match i, frz v with
    | .d (.int k), some y => match ixN xs.length k with
      | some n => .go .nx (e.set j (.own (.l (xs.set n y)))) s
      | none => .stuck
    | _, _ => .stuck
  | _ => .stuck
def pApp (j : Nat) (g : Pe (List PV)) : Ps := fun e s => match e[j]? with
  | some (.own (.l xs)) => prs (g e s) e fun vs s => match vs with
    | [v] => match frz v with
      | some y => if xs.length < LIM then .go .nx (e.set j (.own (.l (xs ++ [y])))) s else .stuck
      | none => .stuck
    | _ => .stuck
  | _ => .stuck
def pExt (j : Nat) (g : Pe (List PV)) : Ps := fun e s => match e[j]? with
  | some (.own (.l xs)) => prs (g e s) e fun vs s => match vs with
    | [v] => match lstP v with
      | some ys => if xs.length + ys.length ≤ LIM then .go .nx (e.set j (.own (.l (xs ++ ys)))) s else .stuck
      | none => .stuck
    | _ => .stuck
  | _ => .stuck
section
variable {tl : List (Str × Str)} {B : Lo} {n0 b0 b1 : Nat} {A A' A2 : List Nat} {env env0 : DL.Env} {m m' m1 m2 : Mm} {pe pe0 : PEnv} {s s' : Bg} {ga gb : Pe PV} {fa fb : Em Wd}
theorem own_lst (h : SR tl B n0 A env m pe s) {j : Nat} {xs : List PyData} (e : pe[j]? = some (.own (.l xs))) : ∃ n ws, env[j]? = some (some (.ref n)) ∧ n ∈ A ∧ n0 ≤ n ∧ Has m n (.lst ws) ∧ RdsA m A ws xs := by
  obtain ⟨n, cl, e1, g1, g2, g3, g4, g5⟩ := h.own j _ e
  cases cl with
  | lst ws => exact ⟨n, ws, e1, g1, g2, g4, g5⟩
  | _ => exact g5.elim
theorem put_st (h : SR tl B n0 A env m pe s) {n : Nat} {c : Cell} {p : Bool} (hA : n ∈ A) (h0 : n0 ≤ n) : St B n0 A m A (m.put n c p) := by
  have eq : ∀ k, k ≠ n → (m.put n c p).cells[k]? = m.cells[k]? := fun k hk => by
    show (m.cells.set n c)[k]? = _
    exact List.getElem?_set_ne (Ne.symm hk)
  exact ⟨by rw [put_len]; exact Nat.le_refl _, fun k hk hn => eq k (by omega), fun k hk hn => eq k fun z => hn (by rw [z]; exact hA), fun k hk => .inl hk, fun k hk _ => hk⟩
theorem ltAll_app {b : Nat} {x y : List Wd} : Wd.ltAll b (x ++ y) = (Wd.ltAll b x && Wd.ltAll b y) := by
  rw [Bool.eq_iff_iff, Bool.and_eq_true, ltAll_iff, ltAll_iff, ltAll_iff]
  simp only [List.mem_append]
  exact ⟨fun h => ⟨fun w hw => h w (.inl hw), fun w hw => h w (.inr hw)⟩, fun h w hw => hw.elim (h.1 w) (h.2 w)⟩
theorem rs_bind {α β : Type} (r : Rs α) (env : DL.Env) (k : α → Mm → Rs β) (K : β → Mm → Sr) : rs (r.bind k) env K = rs r env fun a m => rs (k a m) env K := by
  cases r <;> rfl
theorem sim_sub {j : Nat} (hi : SimE tl ga fa) (hv : SimE tl gb fb) : SimS tl (pSubS j ga gb) (sSub (eV j) fa fb) := fun B n0 A env m pe s h => by
  unfold pSubS
  split
  · rename_i xs e
    refine relS_rs h (hv B n0 A env m pe s h) fun v w m1 s1 f1 w1 b1 r1 => ?_
    have h1 := h.step f1 w1 b1
    obtain ⟨n, ws, e1, hA, hn0, hh, hr⟩ := own_lst h1 e
    have ev : eV j env m1 = .ok (.ref n) m1 := by unfold eV; rw [e1]
    rw [ev]
    show RelS tl B n0 A m1 _ (rs (fa env m1) env _)
    refine relS_rs h1 (hi B n0 A env m1 pe s1 h1) fun i wi m2 s2 f2 w2 b2 r2 => ?_
    have h2 := h1.step f2 w2 b2
    obtain ⟨n', ws', e1', hA', hn0', hh', hr'⟩ := own_lst h2 e
    rw [e1] at e1'
    cases e1'
    split
    · rename_i k y ey
      rw [RdA.flat r2 rfl]
      cases ek : ixN xs.length k with
      | none => trivial
      | some q =>
        have rv := frz_ok (r1.step h.bag.sub f2) ey
        have es : setO (.ref n) (.d (.int k)) w m2 = some (m2.put n (.lst (ws'.set q w)) (w.lt 0)) := by
          unfold setO
          simp only [show m2.cells[n]? = some (.lst ws') from hh', hr'.length, ek]
        simp only [es]
        have r3 : RdC m2 A (.lst (ws'.set q w)) (.l (xs.set q y)) := hr'.set rv q
        have h3 := h2.put (pure := w.lt 0) e e1 hh' r3 (fun hp b hb => by
          show Wd.ltAll b (ws'.set q w) = true
          rw [ltAll_iff]
          intro u hu
          rcases List.mem_or_eq_of_mem_set hu with z | z
          · exact ltAll_iff.mp hb u z
          · rw [z]; exact Wd.lt_mono (Nat.zero_le _) hp) (fun _ _ z => by cases z)
        exact ⟨.nx, env, _, A, rfl, put_st h2 hA hn0, h3⟩
    · trivial
  · trivial
theorem sim_app {j : Nat} {g : Pe (List PV)} {f : Em (List Wd)} (hg : SimA tl g f) : SimS tl (pApp j g) (sDrop (eM appO (eV j) f)) := fun B n0 A env m pe s h => by
  unfold pApp
  split
  · rename_i xs e
    obtain ⟨n, ws, e1, hA, hn0, hh, hr⟩ := own_lst h e
    have ev : eM appO (eV j) f env m = (f env m).bind fun ws m => Rs.of (appO (.ref n) ws m) := by
      unfold eM eV
      rw [e1]
      simp only [Rs.bind_ok, show m.cells[n]? = some (.lst ws) from hh]
    unfold sDrop
    rw [ev, rs_bind]
    refine relS_rs h (hg B n0 A env m pe s h) fun vs us m1 s1 f1 w1 b1 r1 => ?_
    have h1 := h.step f1 w1 b1
    obtain ⟨n', ws', e1', hA', hn0', hh', hr'⟩ := own_lst h1 e
    rw [e1] at e1'
    cases e1'
    split
    · rename_i v
      obtain ⟨w, q, r2⟩ := vrs1 h.bag.sub r1
      subst q
      cases ey : frz v with
      | none => trivial
      | some y =>
        simp only []
        have rv := frz_ok r2 ey
        by_cases hl : xs.length < LIM
        · rw [if_pos hl]
          have es : appO (.ref n) [w] m1 = some (.d .none, m1.put n (.lst (ws' ++ [w])) (w.lt 0)) := by
            unfold appO
            simp only [show m1.cells[n]? = some (.lst ws') from hh', hr'.length, if_pos hl]
          rw [es]
          have r3 : RdC m1 A (.lst (ws' ++ [w])) (.l (xs ++ [y])) := hr'.append (.cons rv .nil)
          have h3 := h1.put (pure := w.lt 0) e e1 hh' r3 (fun hp b hb => by
            show Wd.ltAll b (ws' ++ [w]) = true
            rw [ltAll_app, show Wd.ltAll b ws' = true from hb]
            show (true && (w.lt b && true)) = true
            rw [Wd.lt_mono (Nat.zero_le _) hp]; rfl) (fun _ _ z => by cases z)
          exact ⟨.nx, env, _, A, rfl, put_st h1 hA hn0, h3⟩
        · rw [if_neg hl]; trivial
    · trivial
  · trivial
theorem sim_ext {j : Nat} {g : Pe (List PV)} {f : Em (List Wd)} (hg : SimA tl g f) : SimS tl (pExt j g) (sDrop (eM extO (eV j) f)) := fun B n0 A env m pe s h => by
  unfold pExt
  split
  · rename_i xs e
    obtain ⟨n, ws, e1, hA, hn0, hh, hr⟩ := own_lst h e
    have ev : eM extO (eV j) f env m = (f env m).bind fun ws m => Rs.of (extO (.ref n) ws m) := by
      unfold eM eV
      rw [e1]
      simp only [Rs.bind_ok, show m.cells[n]? = some (.lst ws) from hh]
    unfold sDrop
    rw [ev, rs_bind]
    refine relS_rs h (hg B n0 A env m pe s h) fun vs us m1 s1 f1 w1 b1 r1 => ?_
    have h1 := h.step f1 w1 b1
    obtain ⟨n', ws', e1', hA', hn0', hh', hr'⟩ := own_lst h1 e
    rw [e1] at e1'
    cases e1'
    split
    · rename_i v
      obtain ⟨w, q, r2⟩ := vrs1 h.bag.sub r1
      subst q
      cases ey : lstP v with
      | none => trivial
      | some ys =>
        simp only []
        obtain ⟨k, us, q1, q2, q3⟩ := lst_ok h1 r2 ey
        subst q1
        by_cases hl : xs.length + ys.length ≤ LIM
        · rw [if_pos hl]
          have es : extO (.ref n) [.ref k] m1 = some (.d .none, m1.put n (.lst (ws' ++ us)) (Wd.ltAll 0 us)) := by
            unfold extO
            simp only [show m1.cells[n]? = some (.lst ws') from hh', show m1.cells[k]? = some (.lst us) from q2, hr'.length, q3.length, if_pos hl]
          rw [es]
          have r3 : RdC m1 A (.lst (ws' ++ us)) (.l (xs ++ ys)) := hr'.append q3
          have h3 := h1.put (pure := Wd.ltAll 0 us) e e1 hh' r3 (fun hp b hb => by
            show Wd.ltAll b (ws' ++ us) = true
            rw [ltAll_app, show Wd.ltAll b ws' = true from hb, Wd.ltAll_mono (Nat.zero_le _) hp]; rfl) (fun _ _ z => by cases z)
          exact ⟨.nx, env, _, A, rfl, put_st h1 hA hn0, h3⟩
        · rw [if_neg hl]; trivial
    · trivial
  · trivial
end
end PD
set_option Elab.async false
set_option linter.all false
set_option maxRecDepth 100000
set_option maxHeartbeats 2000000
namespace PD
open PySem PySem.Spec PyProof.Rows L2 DL
/-! ### loops -/
def whPN (c : Pe Bool) (b : Ps) : Nat → Ps
  | 0 => fun _ _ => .stuck
  | n + 1 => fun e s => prs (c e s) e fun t s => if t = true then (match b e s with
    | .go .nx e s => whPN c b n e s
    | .go .ct e s => whPN c b n e s
    | .go .bk e s => .go .nx e s
    | r => r) else .go .nx e s
open Classical in
noncomputable def pWh (c : Pe Bool) (b : Ps) : Ps := fun e s => if h : ∃ n, whPN c b n e s ≠ .stuck then whPN c b (Classical.choose h) e s else .stuck
theorem whPN_mono {c : Pe Bool} {b : Ps} : ∀ {n : Nat} {e : PEnv} {s : Bg}, whPN c b n e s ≠ .stuck → whPN c b (n + 1) e s = whPN c b n e s
  | 0, e, s, h => absurd rfl h
  | n + 1, e, s, h => by
    have h' : prs (c e s) e (fun t s => if t = true then (match b e s with
      | .go .nx e s => whPN c b n e s
      | .go .ct e s => whPN c b n e s
      | .go .bk e s => .go .nx e s
      | r => r) else .go .nx e s) ≠ .stuck := h
    show prs (c e s) e (fun t s => if t = true then (match b e s with
      | .go .nx e s => whPN c b (n + 1) e s
      | .go .ct e s => whPN c b (n + 1) e s
      | .go .bk e s => .go .nx e s
      | r => r) else .go .nx e s) = prs (c e s) e (fun t s => if t = true then (match b e s with
      | .go .nx e s => whPN c b n e s
      | .go .ct e s => whPN c b n e s
      | .go .bk e s => .go .nx e s
      | r => r) else .go .nx e s)
    cases q : c e s with
    | stuck => rfl
    | exc x s1 => rfl
    | ok t s1 =>
      rw [q] at h'
      simp only [prs_ok] at h' ⊢
      cases t with
      | false => rfl
      | true =>
        simp only [if_true] at h' ⊢
        cases q2 : b e s1 with
        | stuck => rfl
        | exc _ _ _ => rfl
        | go f e2 s2 =>
          rw [q2] at h'
          cases f with
          | nx => exact whPN_mono h'
          | ct => exact whPN_mono h'
          | bk => rfl
          | rt v => rfl
theorem whPN_le {c : Pe Bool} {b : Ps} {n k : Nat} {e : PEnv} {s : Bg} (h : whPN c b n e s ≠ .stuck) : whPN c b (n + k) e s = whPN c b n e s := by
  induction k with
  | zero => rfl
  | succ k ih => rw [← Nat.add_assoc, whPN_mono (by rw [ih]; exact h), ih]
theorem pWh_of {c : Pe Bool} {b : Ps} {n : Nat} {e : PEnv} {s : Bg} {r : PS} (h : whPN c b n e s = r) (hr : r ≠ .stuck) : pWh c b e s = r := by
  have h1 : ∃ n, whPN c b n e s ≠ .stuck := ⟨n, by rw [h]; exact hr⟩
  unfold pWh
  rw [dif_pos h1]
  have h2 := Classical.choose_spec h1
  have a := whPN_le (k := n) h2
  have b' := whPN_le (k := Classical.choose h1) (show whPN c b n e s ≠ .stuck by rw [h]; exact hr)
  rw [Nat.add_comm] at b'
  rw [← a, b', h]
def pForL (t : Tg) (b : Ps) : List PyData → Ps
  | [] => fun e s => .go .nx e s
  | x :: xs => fun e s => match putP t x e with
    | none => .stuck
    | some e => match b e s with
      | .go .nx e s => pForL t b xs e s
      | .go .ct e s => pForL t b xs e s
      | .go .bk e s => .go .nx e s
      | r => r
def pFor (g : Pe PIt) (t : Tg) (b : Ps) : Ps := fun e s => prs (g e s) e fun p s => if p.free = true then pForL t b p.xs e s else .stuck
section
variable {tl : List (Str × Str)} {B : Lo} {n0 b0 b1 : Nat} {A A' A2 : List Nat} {env env0 : DL.Env} {m m' m1 m2 : Mm} {pe pe0 : PEnv} {s s' : Bg} {ga gb : Pe PV} {fa fb : Em Wd} {t : Pe Bool} {c : Em Bool} {p : Ps} {P : Sm}
theorem sim_wh (hc : SimT tl t c) (hb : SimS tl p P) : SimS tl (pWh t p) (sWh c P) := fun B n0 A env m pe s h => by
  have key : ∀ (n : Nat) (A : List Nat) (env : DL.Env) (m : Mm) (pe : PEnv) (s : Bg), SR tl B n0 A env m pe s → RelS tl B n0 A m (whPN t p n pe s) (sWh c P env m) := by
    intro n
    induction n with
    | zero => intros; trivial
    | succ n ih =>
      intro A env m pe s h
      rw [sWh_unf]
      show RelS tl B n0 A m (prs (t pe s) pe fun t s => if t = true then (match p pe s with
        | .go .nx e s => whPN _ p n e s
        | .go .ct e s => whPN _ p n e s
        | .go .bk e s => .go .nx e s
        | r => r) else .go .nx pe s) _
      refine relS_rs h (hc B n0 A env m pe s h) fun v w m1 s1 f1 w1 b1 r1 => ?_
      subst r1
      have h1 := h.step f1 w1 b1
      cases v with
      | false => exact relS_nx h1
      | true =>
        simp only [if_true]
        have hh := hb B n0 A env m1 pe s1 h1
        cases e : p pe s1 with
        | stuck => trivial
        | exc x pe' s' =>
          rw [e] at hh
          obtain ⟨x', env', m', A', e1, r⟩ := hh
          rw [e1]
          exact ⟨x', env', m', A', rfl, r⟩
        | go fl pe' s' =>
          rw [e] at hh
          obtain ⟨fl', env', m', A', e1, st, r⟩ := hh
          rw [e1]
          cases fl with
          | nx => cases fl' with
            | nx => exact (ih A' env' m' pe' s' r).pre st
            | _ => exact r.elim
          | ct => cases fl' with
            | ct => exact (ih A' env' m' pe' s' r).pre st
            | _ => exact r.elim
          | bk => cases fl' with
            | bk => exact ⟨.nx, env', m', A', rfl, st, r⟩
            | _ => exact r.elim
          | rt v => cases fl' with
            | rt w => exact ⟨.rt w, env', m', A', rfl, st, r⟩
            | _ => exact r.elim
  unfold pWh
  split
  · exact key _ A env m pe s h
  · trivial
theorem sim_forL {t : Tg} {p : Ps} {P : Sm} (hb : SimS tl p P) {B : Lo} {n0 : Nat} {gd : Gd} : ∀ (xs : List PyData) (ws : List Wd) (A : List Nat) (env : DL.Env) (m : Mm) (pe : PEnv) (s : Bg), SR tl B n0 A env m pe s → RdsA m A ws xs → (gd = [] ∨ ∃ n us, gd = [(n, .lst us)] ∧ Has m n (.lst us) ∧ n ∉ A) →
    RelS tl B n0 A m (pForL t p xs pe s) (forL t P gd ws env m) := by
  intro xs
  induction xs with
  | nil =>
    intro ws A env m pe s h hw hg
    cases hw
    have gd1 : gdOk gd m = true := by
      rcases hg with e | ⟨n, us, e, hh, _⟩
      · rw [e]; exact gdOk_nil
      · rw [e]; exact gdOk_one hh
    unfold forL
    rw [if_pos gd1]
    exact relS_nx h
  | cons x xs ih =>
    intro ws A env m pe s h hw hg
    cases hw with
    | @cons w ws _ _ hx hxs =>
      have gd1 : gdOk gd m = true := by
        rcases hg with e | ⟨n, us, e, hh, _⟩
        · rw [e]; exact gdOk_nil
        · rw [e]; exact gdOk_one hh
      unfold forL pForL
      rw [if_pos gd1]
      cases e : putP t x pe with
      | none => simp only [e]; trivial
      | some pe1 =>
        obtain ⟨env1, q1, h1⟩ := SR.putT t h hx e
        simp only [e, q1]
        have hh := hb B n0 A env1 m pe1 s h1
        have go : ∀ {env' m' A' pe' s'}, St B n0 A m A' m' → SR tl B n0 A' env' m' pe' s' → RelS tl B n0 A m (pForL t p xs pe' s') (forL t P gd ws env' m') := fun {env' m' A' pe' s'} st r => by
          have mv : ∀ k c, Has m k c → k ∉ A → Has m' k c ∧ k ∉ A' := fun k c hk hn => ⟨(st.fix k hk.lt hn).trans hk, fun z => by
            rcases st.sub k z with z | z
            · exact hn z
            · have := hk.lt; omega⟩
          refine (ih ws A' env' m' pe' s' r (hxs.mv mv) ?_).pre st
          rcases hg with e | ⟨n, us, e, hh, hn⟩
          · exact .inl e
          · exact .inr ⟨n, us, e, (mv n _ hh hn).1, (mv n _ hh hn).2⟩
        cases e : p pe1 s with
        | stuck => trivial
        | exc x pe' s' =>
          rw [e] at hh
          obtain ⟨x', env', m', A', e1, r⟩ := hh
          rw [e1]
          exact ⟨x', env', m', A', rfl, r⟩
        | go fl pe' s' =>
          rw [e] at hh
          obtain ⟨fl', env', m', A', e1, st, r⟩ := hh
          rw [e1]
          cases fl with
          | nx => cases fl' with
            | nx => exact go st r
            | _ => exact r.elim
          | ct => cases fl' with
            | ct => exact go st r
            | _ => exact r.elim
          | bk => cases fl' with
            | bk => exact ⟨.nx, env', m', A', rfl, st, r⟩
            | _ => exact r.elim
          | rt v => cases fl' with
            | rt w => exact ⟨.rt w, env', m', A', rfl, st, r⟩
            | _ => exact r.elim
theorem sim_for {g : Pe PIt} {f : Em (List Wd × Gd)} {t : Tg} (hg : SimI tl g f) (hb : SimS tl p P) : SimS tl (pFor g t p) (sFor f t P) := fun B n0 A env m pe s h =>
  relS_rs h (hg B n0 A env m pe s h) fun v w m1 s1 f1 w1 b1 r1 => by
    by_cases hf : v.free = true
    · rw [if_pos hf]
      refine sim_forL hb v.xs w.1 A env m1 pe s1 (h.step f1 w1 b1) r1.1 ?_
      rcases r1.2 with e | ⟨n, us, e, a, _, b⟩
      · exact .inl e
      · exact .inr ⟨n, us, e, a, b hf⟩
    · rw [if_neg hf]; trivial
end
/-! ### defs -/
def AR (B : Lo) (A : List Nat) (m : Mm) : PV → Wd → Prop
  | .d x, w => RdA m A w x
  | .bag, w => ∃ i r, B = some (i, r) ∧ w = .ref i
  | _, _ => False
def ARs (B : Lo) (A : List Nat) (m : Mm) : List PV → List Wd → Prop
  | [], [] => True
  | v :: vs, w :: ws => AR B A m v w ∧ ARs B A m vs ws
  | _, _ => False
/-- what a def gives, as data; what it gives as cells -/
def SimF (tl : List (Str × Str)) (P : PFn) (N : Fn) : Prop := ∀ (B : Lo) (A : List Nat) (m : Mm) (s : Bg) (vs : List PV) (ws : List Wd), WF m → BagR B A m s → (∀ n ∈ A, n < m.cells.length) → Tabs tl m → ARs B A m vs ws → RelE (VR [] [] B A) B A m (P vs s) (N ws m)
def toSl : PV → Sl
  | .d x => .d x
  | .bag => .bag
  | _ => .no
def startP (n : Nat) (vs : List PV) : PEnv := vs.map toSl ++ List.replicate (n - vs.length) .no
def runP (n : Nat) (b : Ps) : PFn := fun vs s => match b (startP n vs) s with
  | .go .nx _ s => .ok (.d .none) s
  | .go (.rt v) _ s => .ok v s
  | .exc x _ s => .exc x s
  | _ => .stuck
section
variable {tl : List (Str × Str)} {B : Lo} {n0 b0 b1 : Nat} {A A' A2 : List Nat} {env env0 : DL.Env} {m m' m1 m2 : Mm} {pe pe0 : PEnv} {s s' : Bg}
theorem ARs.length : ∀ {vs : List PV} {ws : List Wd}, ARs B A m vs ws → vs.length = ws.length
  | [], [], _ => rfl
  | _ :: _, _ :: _, h => congrArg (· + 1) (ARs.length h.2)
  | [], _ :: _, h => h.elim
  | _ :: _, [], h => h.elim
theorem ARs.get : ∀ {vs : List PV} {ws : List Wd} {i : Nat} {v : PV}, ARs B A m vs ws → vs[i]? = some v → ∃ w, ws[i]? = some w ∧ AR B A m v w
  | [], [], i, v, _, e => by simp at e
  | _ :: _, _ :: _, 0, v, h, e => by simp at e; subst e; exact ⟨_, rfl, h.1⟩
  | _ :: _, _ :: _, i + 1, v, h, e => by
    obtain ⟨w, e1, r⟩ := ARs.get (i := i) (v := v) h.2 (by simpa using e)
    exact ⟨w, by simpa using e1, r⟩
  | [], _ :: _, _, _, h, _ => h.elim
  | _ :: _, [], _, _, h, _ => h.elim
theorem startP_inv {n i : Nat} {vs : List PV} {sl : Sl} (h : (startP n vs)[i]? = some sl) (hn : sl ≠ .no) : ∃ v, vs[i]? = some v ∧ toSl v = sl := by
  unfold startP at h
  by_cases hi : i < vs.length
  · rw [List.getElem?_append_left (by simpa using hi), List.getElem?_map] at h
    obtain ⟨v, e1, e2⟩ := Option.map_eq_some_iff.mp h
    exact ⟨v, e1, e2⟩
  · rw [List.getElem?_append_right (by simpa using hi), List.getElem?_replicate] at h
    split at h
    · cases h; exact absurd rfl hn
    · cases h
theorem sr_start {n : Nat} {vs : List PV} {ws : List Wd} (w : WF m) (b : BagR B A m s) (ha : ∀ n ∈ A, n < m.cells.length) (ht : Tabs tl m) (hr : ARs B A m vs ws) : SR tl B m.cells.length A (startE n ws) m.openS (startP n vs) s := by
  have env_ : ∀ {i : Nat} {w : Wd}, ws[i]? = some w → (startE n ws)[i]? = some (some w) := fun {i w} e => by
    unfold startE
    have hi := get_of e
    rw [List.getElem?_append_left (by simpa using hi), List.getElem?_map, e]
    rfl
  refine ⟨w.openS, Nat.le_refl _, ?_, fun i x e => ?_, fun i e => ?_, fun i c e => ?_, fun i j c c' k e1 _ _ _ => ?_, b, ha, ht⟩
  · unfold startE startP
    simp [hr.length]
  · obtain ⟨v, e1, e2⟩ := startP_inv e (by simp)
    obtain ⟨w, e3, r⟩ := hr.get e1
    cases v with
    | d y => cases e2; exact ⟨w, env_ e3, RdA.mv (m := m) (m' := m.openS) (A' := A) (fun k c hk hn => ⟨hk, hn⟩) r⟩
    | _ => cases e2
  · obtain ⟨v, e1, e2⟩ := startP_inv e (by simp)
    obtain ⟨w, e3, r⟩ := hr.get e1
    cases v with
    | bag => obtain ⟨a, b, q1, q2⟩ := r; exact ⟨a, b, q1, by rw [env_ e3, q2]⟩
    | _ => cases e2
  · obtain ⟨v, e1, e2⟩ := startP_inv e (by simp)
    cases v <;> cases e2
  · obtain ⟨v, e1, e2⟩ := startP_inv e1 (by simp)
    cases v <;> cases e2
theorem close_eq {held : Bool} (wf : WF m) {k : Nat} (hk : k < n0) : (m.closeS n0 held).cells[k]? = m.cells[k]? := by
  rcases (wf.close (n0 := n0) (held := held)).2 with e | ⟨_, h2, h3, _⟩
  · rw [e]
  · rw [h2, List.getElem?_take, if_pos hk]
theorem close_le {held : Bool} (wf : WF m) (h : n0 ≤ m.cells.length) : n0 ≤ (m.closeS n0 held).cells.length := by
  rcases (wf.close (n0 := n0) (held := held)).2 with e | ⟨_, h2, h3, _⟩
  · rw [e]; exact h
  · rw [h2, List.length_take]; omega
/-- the end of a def's scope -/
theorem close_ok {held : Bool} {m0 : Mm} (st : St B m0.cells.length A m0.openS A' m') (wf : WF m') (b : BagR B A' m' s') (b0 : BagR B A m0 s) (ha : ∀ n ∈ A, n < m0.cells.length) :
    Fr (bagC B) m0 (m'.closeS m0.cells.length held) ∧ WF (m'.closeS m0.cells.length held) ∧ BagR B A (m'.closeS m0.cells.length held) s' := by
  have le : m0.cells.length ≤ m'.cells.length := st.le
  have old : ∀ k, k < m0.cells.length → (m'.closeS m0.cells.length held).cells[k]? = m'.cells[k]? := fun k hk => close_eq wf hk
  refine ⟨⟨close_le wf le, fun k hk hn => (old k hk).trans (st.old k hk hn)⟩, (wf.close).1, ?_⟩
  cases B with
  | none => trivial
  | some p =>
    obtain ⟨i, r⟩ := p
    have hi := ha i b0.2.1
    have hr := ha r b0.2.2.1
    exact ⟨b0.1, b0.2.1, b0.2.2.1, (old i hi).trans b.2.2.2.1, (old r hr).trans b.2.2.2.2.1, b.2.2.2.2.2⟩
theorem RdfA.closeF {held : Bool} (wf : WF m) (hs : ∀ k ∈ A2, k ∈ A) : ∀ {x : List (Str × Wd)} {y : List (Str × PyData)}, RdfA m A x y → (held = true → Wd.ltAll n0 (x.map (·.2)) = true) → RdfA (m.closeS n0 held) A2 x y
  | [], [], _, _ => trivial
  | (_, w) :: r, (_, _) :: _, ⟨h1, h2, h3⟩, hl => by
    have sp : held = true → w.lt n0 = true ∧ Wd.ltAll n0 (r.map (·.2)) = true := fun e => by
      have : (w.lt n0 && Wd.ltAll n0 (r.map (·.2))) = true := hl e
      rwa [Bool.and_eq_true] at this
    exact ⟨h1, (RdA.close wf h2 fun e => (sp e).1).mv fun k c hk hn => ⟨hk, fun z => hn (hs k z)⟩, RdfA.closeF wf hs h3 fun e => (sp e).2⟩
  | [], _ :: _, h, _ => h.elim
  | _ :: _, [], h, _ => h.elim
theorem sim_run {n : Nat} {b : Ps} {S : Sm} (h : SimS tl b S) : SimF tl (runP n b) (runF n S) := fun B A m s vs ws w bg ha ht hr => by
  have h0 := sr_start (n := n) w bg ha ht hr
  have r := h B m.cells.length A (startE n ws) m.openS (startP n vs) s h0
  unfold runP runF
  have subA : ∀ {A' : List Nat} {m' : Mm}, St B m.cells.length A m.openS A' m' → ∀ k ∈ A, k ∈ A' := fun st k hk => st.sup k hk (ha k hk)
  cases e : b (startP n vs) s with
  | stuck => trivial
  | exc x pe' s' =>
    rw [e] at r
    obtain ⟨x', env', m', A', e1, st, sr, xr⟩ := r
    rw [e1]
    obtain ⟨f, wf, b'⟩ := close_ok (held := Wd.ltAll m.cells.length (x'.fs.map (·.2))) st sr.wf sr.bag bg ha
    exact ⟨x', _, rfl, f, wf, b', xr.1, xr.2.closeF sr.wf (subA st) fun e => e⟩
  | go fl pe' s' =>
    rw [e] at r
    obtain ⟨fl', env', m', A', e1, st, r⟩ := r
    rw [e1]
    cases fl with
    | bk => trivial
    | ct => trivial
    | nx => cases fl' with
      | nx =>
        obtain ⟨f, wf, b'⟩ := close_ok (held := true) st r.wf r.bag bg ha
        exact ⟨.d .none, _, rfl, f, wf, b', .d rfl⟩
      | _ => exact r.elim
    | rt v => cases fl' with
      | rt w =>
        obtain ⟨wf, b', rv⟩ := r
        obtain ⟨f, wf2, b2⟩ := close_ok (held := w.lt m.cells.length) st wf b' bg ha
        refine ⟨w, _, rfl, f, wf2, b2, ?_⟩
        cases v with
        | d x => exact (RdA.close wf (show RdA m' A' w x from rv) fun e => e).mv fun k c hk hn => ⟨hk, fun z => hn (subA st k z)⟩
        | bo i c => have := rv.1; simp at this
        | bag => exact rv
        | fr c =>
          obtain ⟨k, cl, ew, g1, g2, g3, g4⟩ := rv
          subst ew
          have hl : (Wd.ref k).lt m.cells.length = false := by
            show decide (k < m.cells.length) = false
            simp; omega
          have ec : (m'.closeS m.cells.length ((Wd.ref k).lt m.cells.length)).cells = m'.cells := by
            rcases (wf.close (n0 := m.cells.length) (held := (Wd.ref k).lt m.cells.length)).2 with e | ⟨e, _⟩
            · exact e
            · rw [hl] at e; cases e
          have mv : ∀ q c, Has m' q c → q ∉ k :: A' → Has (m'.closeS m.cells.length ((Wd.ref k).lt m.cells.length)) q c ∧ q ∉ k :: A := fun q c hk hn => ⟨by show (m'.closeS m.cells.length _).cells[q]? = _; rw [ec]; exact hk, fun z => hn (by
            rcases List.mem_cons.mp z with e | z
            · rw [e]; exact List.mem_cons_self
            · exact List.mem_cons_of_mem _ (subA st q z))⟩
          exact ⟨k, cl, rfl, g1, fun z => g2 (subA st k z), by show (m'.closeS m.cells.length _).cells[k]? = _; rw [ec]; exact g3, g4.mv mv⟩
      | _ => exact r.elim
end
/-! ### calls -/
def frzA : List PV → Option (List PV)
  | [] => some []
  | v :: vs => match v with
    | .d x => (frzA vs).map fun r => .d x :: r
    | .fr c => (frzA vs).map fun r => .d c.toD :: r
    | .bag => (frzA vs).map fun r => .bag :: r
    | .bo _ _ => none
def pCall (n : Nat) (P : PFn) (g : Pe (List PV)) : Pe PV := fun e s => (g e s).bind fun vs s => match frzA vs with
  | some us => if us.length = n then P us s else .stuck
  | none => .stuck
section
variable {tl : List (Str × Str)} {B : Lo} {n0 b0 b1 : Nat} {A A' A2 : List Nat} {env env0 : DL.Env} {m m' m1 m2 : Mm} {pe pe0 : PEnv} {s s' : Bg}
theorem frzA_ok (hB : ∀ k ∈ bagC B, k ∈ A) : ∀ {vs us : List PV} {ws : List Wd} {b0 : Nat}, VRs pe env B A b0 m vs ws → frzA vs = some us → ARs B A m us ws
  | [], us, [], b0, _, e => by cases e; trivial
  | v :: vs, us, w :: ws, b0, r, e => by
    obtain ⟨r1, r2⟩ := r.cons_inv hB
    cases v with
    | d x =>
      obtain ⟨r', e1, e2⟩ := Option.map_eq_some_iff.mp (show (frzA vs).map (fun r => PV.d x :: r) = some us from e)
      subst e2
      exact ⟨r1, frzA_ok hB r2 e1⟩
    | fr c =>
      obtain ⟨r', e1, e2⟩ := Option.map_eq_some_iff.mp (show (frzA vs).map (fun r => PV.d c.toD :: r) = some us from e)
      subst e2
      exact ⟨frz_ok r1 rfl, frzA_ok hB r2 e1⟩
    | bag =>
      obtain ⟨r', e1, e2⟩ := Option.map_eq_some_iff.mp (show (frzA vs).map (fun r => PV.bag :: r) = some us from e)
      subst e2
      exact ⟨r1, frzA_ok hB r2 e1⟩
    | bo _ _ => cases e
  | [], us, _ :: _, b0, r, e => r.elim
  | _ :: _, us, [], b0, r, e => r.elim
theorem VR.ofNil {v : PV} {w : Wd} (h : VR [] [] B A b0 m v w) : VR pe env B A b0 m v w := by
  cases v with
  | bo i c => have := h.1; simp at this
  | _ => exact h
theorem sim_call {n : Nat} {P : PFn} {N : Fn} {g : Pe (List PV)} {f : Em (List Wd)} (hF : SimF tl P N) (hg : SimA tl g f) : SimE tl (pCall n P g) (eCall n N f) := fun B n0 A env m pe s h =>
  (hg B n0 A env m pe s h).bind baseV fun vs ws m1 s1 f1 w1 b1 r1 => by
    have h1 := h.step f1 w1 b1
    cases e : frzA vs with
    | none => simp only [e]; trivial
    | some us =>
      simp only [e]
      have ar := frzA_ok h.bag.sub r1 e
      by_cases hl : us.length = n
      · rw [if_pos hl, if_pos (by rw [← ar.length]; exact hl)]
        exact (hF B A m1 s1 us ws w1 b1 h1.alt h1.tab ar).mono fun m' v w _ _ r => r.ofNil
      · rw [if_neg hl]; trivial
end
/-! ### errors -/
def pexOf (x : Str) (fs : List (Str × Nat)) (ds : List PyData) : PEx := ⟨x, fs.reverse.map fun p => (p.1, (ds[p.2]?).getD .none)⟩
def pRaise (x : Str) (n : Nat) (fs : List (Str × Nat)) (g : Pe (List PV)) : Ps := fun e s => prs (g e s) e fun vs s => match frzs vs with
  | some ds => if ds.length = n then .exc (pexOf x fs ds) e s else .stuck
  | none => .stuck
structure PHd where
  cls : Str
  slot : Option Nat
  run : PEx → Ps
def unsetP (o : Option Nat) (e : PEnv) : PEnv := match o with
  | none => e
  | some i => e.set i .no
def offP (o : Option Nat) : PS → PS
  | .go f e s => .go f (unsetP o e) s
  | _ => .stuck
def catchP (sub : Str → Str → Option Bool) : List PHd → PEx → Ps
  | [], x => fun e s => .exc x e s
  | h :: r, x => fun e s => match sub x.cls h.cls with
    | some true => offP h.slot (h.run x (unsetP h.slot e) s)
    | some false => catchP sub r x e s
    | none => .stuck
def pTry (sub : Str → Str → Option Bool) (b : Ps) (hs : List PHd) : Ps := fun e s => match b e s with
  | .exc x e1 s1 => catchP sub hs x e1 s1
  | r => r
def SimX (tl : List (Str × Str)) (g : PEx → Ps) (f : Ex → Sm) : Prop := ∀ (B : Lo) (n0 : Nat) (A : List Nat) (env : DL.Env) (m : Mm) (pe : PEnv) (s : Bg) (x : PEx) (x' : Ex), SR tl B n0 A env m pe s → XR m A x x' → RelS tl B n0 A m (g x pe s) (f x' env m)
inductive SimH (tl : List (Str × Str)) : List PHd → List Hd → Prop
  | nil : SimH tl [] []
  | cons {c : Str} {o : Option Nat} {g : PEx → Ps} {f : Ex → Sm} {gs : List PHd} {fs : List Hd} : SimX tl g f → SimH tl gs fs → SimH tl (⟨c, o, g⟩ :: gs) (⟨c, o, f⟩ :: fs)
/-- what a clause's suite gives back -/
inductive PLf where
  | c (d : PyData) | f (n : Str)
def evP (x : PEx) : List Lf → Option (List PyData)
  | [] => some []
  | .c d :: r => if okD d = true then (evP x r).map (d :: ·) else none
  | .f n :: r => match x.fs.lookup n, evP x r with
    | some d, some ds => some (d :: ds)
    | _, _ => none
def hTupP (c : Str) (ls : List Lf) : PEx → Option PyData := fun x => if x.cls = c then (match evP x ls with
  | some ds => if ds.length ≤ LIM then some (.tuple ds) else none
  | none => none) else none
def hRetP (v : PEx → Option PyData) : PEx → Ps := fun x e s => match v x with
  | some d => .go (.rt (.d d)) e s
  | none => .stuck
/-- clauses of a deed -/
structure PHc where
  cls : Str
  val : PEx → Option PyData
def closedP (sub : Str → Str → Option Bool) : List PHc → PEx → Bg → PR PV
  | [], _, _ => .stuck
  | h :: r, x, s => match sub x.cls h.cls with
    | some true => match h.val x with
      | some d => .ok (.d d) s
      | none => .stuck
    | some false => closedP sub r x s
    | none => .stuck
def caughtP (sub : Str → Str → Option Bool) (told : Str) (hs : List PHc) : PR PV → PR PV
  | .ok v s => match frz v with
    | some y => .ok (.d (.tuple [.str told, y])) s
    | none => .stuck
  | .exc x s => closedP sub hs x s
  | .stuck => .stuck
def pLam (T : PR PV → PR PV) (b : Pe PV) : Pe PV := fun e s => T (b e s)
section
variable {tl : List (Str × Str)} {B : Lo} {n0 b0 b1 : Nat} {A A' A2 : List Nat} {env env0 : DL.Env} {m m' m1 m2 : Mm} {pe pe0 : PEnv} {s s' : Bg} {sub : Str → Str → Option Bool}
theorem rdf_of {ds : List PyData} {ws : List Wd} (h : RdsA m A ws ds) : ∀ (fs : List (Str × Nat)), RdfA m A (fs.map fun p => (p.1, (ws[p.2]?).getD (.d .none))) (fs.map fun p => (p.1, (ds[p.2]?).getD .none))
  | [] => trivial
  | (f, i) :: r => by
    refine ⟨rfl, ?_, rdf_of h r⟩
    cases e : ds[i]? with
    | some x =>
      obtain ⟨w, e1, r1⟩ := h.get e
      rw [e1]
      exact r1
    | none =>
      have e1 : ws[i]? = none := by
        rw [List.getElem?_eq_none_iff] at e ⊢
        rw [h.length]; exact e
      rw [e1]
      exact .d rfl
theorem sim_raise {x : Str} {n : Nat} {fs : List (Str × Nat)} {g : Pe (List PV)} {f : Em (List Wd)} (hg : SimA tl g f) : SimS tl (pRaise x n fs g) (sRaise x n fs f) := fun B n0 A env m pe s h =>
  relS_rs h (hg B n0 A env m pe s h) fun vs ws m1 s1 f1 w1 b1 r1 => by
    have h1 := h.step f1 w1 b1
    cases e : frzs vs with
    | none => simp only [e]; trivial
    | some ds =>
      simp only [e]
      have rd := frzs_ok h.bag.sub r1 e
      by_cases hl : ds.length = n
      · rw [if_pos hl, if_pos (by rw [rd.length]; exact hl)]
        exact ⟨_, env, m1, A, rfl, .refl, h1, rfl, rdf_of rd fs.reverse⟩
      · rw [if_neg hl]; trivial
theorem SR.unsetO (h : SR tl B n0 A env m pe s) (o : Option Nat) : SR tl B n0 A (unsetE o env) m (unsetP o pe) s := by
  cases o with
  | none => exact h
  | some i => exact h.unset
theorem RelS.off {g : PS} {f : Sr} (o : Option Nat) (h : RelS tl B n0 A m g f) : RelS tl B n0 A m (offP o g) (offS o f) := by
  cases g with
  | stuck => trivial
  | exc x pe' s' => trivial
  | go fl pe' s' =>
    obtain ⟨fl', env', m', A', e, st, r⟩ := h
    subst e
    refine ⟨fl', _, m', A', rfl, st, ?_⟩
    cases fl <;> cases fl' <;> first | exact SR.unsetO r o | exact r.elim | exact r
theorem sim_catch {gs : List PHd} {fs : List Hd} (h : SimH tl gs fs) {x : PEx} {x' : Ex} (hs : SR tl B n0 A env m pe s) (xr : XR m A x x') : RelS tl B n0 A m (catchP sub gs x pe s) (catchL sub fs x' env m) := by
  induction h with
  | nil => exact ⟨x', env, m, A, rfl, .refl, hs, xr⟩
  | @cons c o g f gs fs h1 h2 ih =>
    show RelS tl B n0 A m (match sub x.cls c with
      | some true => offP o (g x (unsetP o pe) s)
      | some false => catchP sub gs x pe s
      | none => .stuck) (match sub x'.cls c with
      | some true => offS o (f x' (unsetE o env) m)
      | some false => catchL sub fs x' env m
      | none => .stuck)
    rw [xr.1]
    cases sub x.cls c with
    | none => trivial
    | some b =>
      cases b with
      | true => exact (h1 B n0 A _ m _ s x x' (hs.unsetO o) xr).off o
      | false => exact ih
theorem sim_try {b : Ps} {S : Sm} {gs : List PHd} {fs : List Hd} (hb : SimS tl b S) (h : SimH tl gs fs) : SimS tl (pTry sub b gs) (sTry sub S fs) := fun B n0 A env m pe s hs => by
  have r := hb B n0 A env m pe s hs
  unfold pTry sTry
  cases e : b pe s with
  | stuck => trivial
  | exc x pe' s' =>
    rw [e] at r
    obtain ⟨x', env', m', A', e1, st, sr, xr⟩ := r
    rw [e1]
    exact (sim_catch h sr xr).pre st
  | go fl pe' s' =>
    rw [e] at r
    obtain ⟨fl', env', m', A', e1, r⟩ := r
    rw [e1]
    exact ⟨fl', env', m', A', rfl, r⟩
/-- a suite that does not look at the error -/
theorem sim_hgen {b : Ps} {S : Sm} (hb : SimS tl b S) : SimX tl (fun _ => b) (fun _ => S) := fun B n0 A env m pe s x x' h _ => hb B n0 A env m pe s h
theorem RdfA.look : ∀ {x : List (Str × Wd)} {y : List (Str × PyData)} {n : Str} {d : PyData}, RdfA m A x y → y.lookup n = some d → ∃ w, x.lookup n = some w ∧ RdA m A w d
  | [], [], n, d, _, e => by cases e
  | (f, w) :: r, (g, z) :: r', n, d, ⟨h1, h2, h3⟩, e => by
    subst h1
    by_cases hn : n = f
    · subst hn
      simp [List.lookup] at e ⊢
      subst e
      exact h2
    · have hb : (n == f) = false := by simpa using hn
      simp only [List.lookup, hb] at e ⊢
      exact RdfA.look h3 e
  | [], _ :: _, _, _, h, _ => h.elim
  | _ :: _, [], _, _, h, _ => h.elim
theorem evP_ok {x : PEx} {x' : Ex} (xr : XR m A x x') : ∀ {ls : List Lf} {ds : List PyData}, evP x ls = some ds → ∃ ws, evL x' ls = some ws ∧ RdsA m A ws ds
  | [], ds, e => by cases e; exact ⟨[], rfl, .nil⟩
  | .c d :: r, ds, e => by
    unfold evP at e
    split at e
    · rename_i hd
      obtain ⟨ds', e1, e2⟩ := Option.map_eq_some_iff.mp e
      subst e2
      obtain ⟨ws, g1, g2⟩ := evP_ok xr e1
      refine ⟨.d d :: ws, ?_, .cons (.d hd) g2⟩
      unfold evL
      rw [g1]; rfl
    · cases e
  | .f n :: r, ds, e => by
    unfold evP at e
    split at e
    · rename_i d ds' e1 e2
      cases e
      obtain ⟨w, q1, q2⟩ := RdfA.look xr.2 e1
      obtain ⟨ws, g1, g2⟩ := evP_ok xr e2
      refine ⟨w :: ws, ?_, .cons q2 g2⟩
      unfold evL
      rw [g1, show Lf.ev x' (.f n) = x'.fs.lookup n from rfl, q1]
    · cases e
theorem hTupP_ok {c : Str} {ls : List Lf} {x : PEx} {x' : Ex} {d : PyData} (xr : XR m A x x') (e : hTupP c ls x = some d) : ∃ w, hTupV c ls x' = some w ∧ RdA m A w d := by
  unfold hTupP at e
  split at e
  · rename_i hc
    split at e
    · rename_i ds e1
      split at e
      · rename_i hl
        cases e
        obtain ⟨ws, g1, g2⟩ := evP_ok xr e1
        refine ⟨mkTup ws, ?_, rdA_tup g2⟩
        unfold hTupV
        rw [if_pos (xr.1.trans hc), g1]
        exact if_pos (by rw [g2.length]; exact hl)
      · cases e
    · cases e
  · cases e
theorem sim_htup {c : Str} {ls : List Lf} : SimX tl (hRetP (hTupP c ls)) (hTup c ls) := fun B n0 A env m pe s x x' h xr => by
  unfold hRetP
  cases e : hTupP c ls x with
  | none => simp only [e]; trivial
  | some d =>
    simp only [e]
    obtain ⟨w, g1, g2⟩ := hTupP_ok xr e
    have e2 : hTup c ls x' env m = .go (.rt w) env m := by
      rw [hTup_V c ls c none]
      show (match hTupV c ls x' with
        | some w => Sr.go (.rt w) env m
        | none => .stuck) = _
      rw [g1]
    rw [e2]
    exact ⟨.rt w, env, m, A, rfl, .refl, h.wf, h.bag, g2⟩
inductive SimC (tl : List (Str × Str)) : List PHc → List Hc → Prop
  | nil : SimC tl [] []
  | cons {c : Str} {o : Option Nat} {g : PEx → Option PyData} {f : Ex → Option Wd} {gs : List PHc} {fs : List Hc} : (∀ (m : Mm) (A : List Nat) x x' d, XR m A x x' → g x = some d → ∃ w, f x' = some w ∧ RdA m A w d) → SimC tl gs fs → SimC tl (⟨c, g⟩ :: gs) (⟨c, o, f⟩ :: fs)
theorem simC_tup {c cl : Str} {o : Option Nat} {ls : List Lf} {gs : List PHc} {fs : List Hc} (h : SimC tl gs fs) : SimC tl (⟨cl, hTupP c ls⟩ :: gs) (⟨cl, o, hTupV c ls⟩ :: fs) := .cons (fun _ _ _ _ _ xr e => hTupP_ok xr e) h
theorem simC_const {cl : Str} {o : Option Nat} {ds : List PyData} {gs : List PHc} {fs : List Hc} (hd : okDs ds = true) (h : SimC tl gs fs) : SimC tl (⟨cl, fun _ => some (.tuple ds)⟩ :: gs) (⟨cl, o, fun _ => some (mkTup (ds.map .d))⟩ :: fs) :=
  .cons (fun m A x x' d _ e => by cases e; exact ⟨_, rfl, rdA_tup (rdsA_d hd)⟩) h
theorem sim_closed {gs : List PHc} {fs : List Hc} (hh : SimC tl gs fs) (hs : SR tl B n0 A env m pe s) {x : PEx} {x' : Ex} (xr : XR m A x x') : RelE (VR pe env B A) B A m (closedP sub gs x s) (match closedL sub fs x' m with
    | .ok w m => .ok w m
    | _ => .stuck) := by
  induction hh with
  | nil => trivial
  | @cons c o g f gs fs h1 h2 ih =>
    have e1 : closedL sub (⟨c, o, f⟩ :: fs) x' m = (match sub x'.cls c with
      | some true => (match f x' with
        | some w => Rs.ok w m
        | none => .stuck)
      | some false => closedL sub fs x' m
      | none => .stuck) := rfl
    have e2 : closedP sub (⟨c, g⟩ :: gs) x s = (match sub x.cls c with
      | some true => (match g x with
        | some d => PR.ok (PV.d d) s
        | none => .stuck)
      | some false => closedP sub gs x s
      | none => .stuck) := rfl
    rw [e1, e2, xr.1]
    cases sub x.cls c with
    | none => trivial
    | some b =>
      cases b with
      | false => exact ih
      | true =>
        cases e : g x with
        | none => simp only [e]; trivial
        | some d =>
          obtain ⟨w, g1, g2⟩ := h1 m A x x' d xr e
          simp only [e, g1]
          exact relE_of hs (.inl rfl) g2
theorem sim_lam {xd q : Str} {told : Str} {gs : List PHc} {fs : List Hc} {b : Pe PV} {f : Em Wd} (hh : SimC tl gs fs) (hb : SimE tl b f) (hm : (xd, q) ∈ tl) : SimE tl (pLam (caughtP sub told gs) b) (eLam xd q (caughtT sub told fs) f) := fun B n0 A env m pe s h => by
  have ht : hasTab xd q m.cells = true := by
    obtain ⟨k, hk⟩ := h.tab _ hm
    refine List.any_eq_true.mpr ⟨_, List.mem_of_getElem? hk, ?_⟩
    simp
  unfold pLam eLam
  rw [if_pos ht]
  have r := hb B n0 A env m pe s h
  cases e : b pe s with
  | stuck => trivial
  | ok v s' =>
    rw [e] at r
    obtain ⟨w, m', e1, f1, w1, b1, r1⟩ := r
    rw [e1]
    show RelE _ _ _ _ (match frz v with
      | some y => PR.ok (PV.d (.tuple [.str told, y])) s'
      | none => .stuck) (.ok (mkTup [.d (.str told), w]) m')
    cases e2 : frz v with
    | none => trivial
    | some y => exact ⟨_, m', rfl, f1, w1, b1, rdA_tup (.cons (.d rfl) (.cons (frz_ok r1 e2) .nil))⟩
  | exc x s' =>
    rw [e] at r
    obtain ⟨x', m', e1, f1, w1, b1, xr⟩ := r
    rw [e1]
    have r2 := sim_closed (sub := sub) hh (h.step f1 w1 b1) xr
    show RelE _ _ _ _ (closedP sub gs x s') (match closedL sub fs x' m' with
      | .ok w m => .ok w m
      | _ => .stuck)
    cases e3 : closedP sub gs x s' with
    | stuck => trivial
    | ok v s2 =>
      rw [e3] at r2
      obtain ⟨w, m2, e4, f2, w2, b2, r3⟩ := r2
      exact ⟨w, m2, e4, f1.trans f2, w2, b2, r3.base f1.le⟩
    | exc x2 s2 =>
      rw [e3] at r2
      obtain ⟨w, m2, e4, f2, w2, b2, r3⟩ := r2
      exact ⟨w, m2, e4, f1.trans f2, w2, b2, r3⟩
end
end PD
set_option Elab.async false
set_option linter.all false
set_option maxRecDepth 100000
set_option maxHeartbeats 2000000
namespace PD
open PySem PySem.Spec PyProof.Rows L2 DL
/-! ### the bag of draws -/
def Bg.get (s : Bg) : Nat → Option Int
  | 0 => some s.a
  | 1 => some s.b
  | 2 => some s.c
  | _ => none
def Bg.put (s : Bg) : Nat → Int → Option Bg
  | 0, x => some { s with a := x }
  | 1, x => some { s with b := x }
  | 2, x => some { s with c := x }
  | _, _ => none
/-- bag[k] -/
def pBagIx (j k : Nat) : Pe PV := fun e s => match e[j]?, s.get k with
  | some .bag, some x => .ok (.d (.int x)) s
  | _, _ => .stuck
/-- bag[3][e:] -/
def pBagCut (j : Nat) (g : Pe PV) : Pe PV := fun e s => match e[j]? with
  | some .bag => (g e s).bind fun v s => match v with
    | .d (.int i) => .ok (.fr (.l (cutL (s.xs.map .int) (some i) none))) s
    | _ => .stuck
  | _ => .stuck
/-- bag[k] = e -/
def pBagSet (j k : Nat) (g : Pe PV) : Ps := fun e s => match e[j]? with
  | some .bag => prs (g e s) e fun v s => match v with
    | .d (.int x) => if 0 ≤ x then (match s.put k x with
      | some s => .go .nx e s
      | none => .stuck) else .stuck
    | _ => .stuck
  | _ => .stuck
/-- bag[k] += e -/
def pBagAug (j k : Nat) (g : Pe PV) : Ps := fun e s => match e[j]?, s.get k with
  | some .bag, some y => prs (g e s) e fun v s => match v, s.get k with
    | .d (.int x), some z => if 0 ≤ y + x ∧ z = y then (match s.put k (y + x) with
      | some s => .go .nx e s
      | none => .stuck) else .stuck
    | _, _ => .stuck
  | _, _ => .stuck
def bagL (s : Bg) (r : Nat) : List Wd := [.d (.int s.a), .d (.int s.b), .d (.int s.c), .ref r]
section
variable {tl : List (Str × Str)} {B : Lo} {n0 b0 b1 : Nat} {A A' A2 : List Nat} {env env0 : DL.Env} {m m' m1 m2 : Mm} {pe pe0 : PEnv} {s s' : Bg} {g : Pe PV} {f : Em Wd}
theorem bag_at (h : SR tl B n0 A env m pe s) {j : Nat} (e : pe[j]? = some .bag) : ∃ i r, B = some (i, r) ∧ env[j]? = some (some (.ref i)) ∧ i ≠ r ∧ i ∈ A ∧ Has m i (.lst (bagL s r)) ∧ Has m r (.lst (s.xs.map fun x => .d (.int x))) ∧ Good s := by
  obtain ⟨i, r, e1, e2⟩ := h.bagv j e
  subst e1
  exact ⟨i, r, rfl, e2, h.bag.1, h.bag.2.1, h.bag.2.2.2.1, h.bag.2.2.2.2.1, h.bag.2.2.2.2.2⟩
theorem get_at {k : Nat} {x : Int} {r : Nat} (e : s.get k = some x) : atI (bagL s r) (k : Int) = some (.d (.int x)) ∧ (bagL s r)[k]? = some (.d (.int x)) := by
  unfold Bg.get at e
  split at e
  · cases e; exact ⟨rfl, rfl⟩
  · cases e; exact ⟨rfl, rfl⟩
  · cases e; exact ⟨rfl, rfl⟩
  · cases e
theorem put_at {k : Nat} {x : Int} {r : Nat} {s' : Bg} (e : s.put k x = some s') : (bagL s r).set k (.d (.int x)) = bagL s' r ∧ s'.xs = s.xs ∧ ixN 4 (k : Int) = some k ∧ (0 ≤ x → Good s → Good s') := by
  unfold Bg.put at e
  split at e
  · cases e; exact ⟨rfl, rfl, rfl, fun hx hg => ⟨hx, hg.2.1, hg.2.2.1, hg.2.2.2⟩⟩
  · cases e; exact ⟨rfl, rfl, rfl, fun hx hg => ⟨hg.1, hx, hg.2.2.1, hg.2.2.2⟩⟩
  · cases e; exact ⟨rfl, rfl, rfl, fun hx hg => ⟨hg.1, hg.2.1, hx, hg.2.2.2⟩⟩
  · cases e
theorem sim_bagIx {j k : Nat} {z : Int} (hz : z = (k : Int)) : SimE tl (pBagIx j k) (e2 ixO (eV j) (eC (.d (.int z)))) := fun B n0 A env m pe s h => by
  subst hz
  unfold pBagIx
  split
  · rename_i x e ex
    obtain ⟨i, r, _, e1, _, _, hh, _⟩ := bag_at h e
    have e2 : e2 ixO (eV j) (eC (.d (.int (k : Int)))) env m = .ok (.d (.int x)) m := by
      unfold e2 eV eC
      rw [e1]
      simp only [Rs.bind_ok]
      unfold ixO
      simp only [s_ref hh, (get_at (r := r) ex).1]
      rfl
    rw [e2]
    exact relE_of h (.inl rfl) (.d rfl)
  · trivial
theorem sim_bagCut {j : Nat} (hg : SimE tl g f) : SimE tl (pBagCut j g) (eSl (e2 ixO (eV j) (eC (.d (.int 3)))) (oSome f) oNone) := fun B n0 A env m pe s h => by
  unfold pBagCut
  split
  · rename_i e
    obtain ⟨i, r, _, e1, _, _, hh, hr, _⟩ := bag_at h e
    have e2' : e2 ixO (eV j) (eC (.d (.int 3))) env m = .ok (.ref r) m := by
      unfold e2 eV eC
      rw [e1]
      simp only [Rs.bind_ok]
      unfold ixO
      simp only [s_ref hh]
      all_goals rfl
    have e3 : eSl (e2 ixO (eV j) (eC (.d (.int 3)))) (oSome f) oNone env m = (f env m).bind fun w m => (match w with
      | .d (.int i) => Rs.ok (some i) m
      | _ => .stuck).bind fun l m => Rs.of (slO (.ref r) l none m) := by
      unfold eSl oSome oNone
      rw [e2']
      simp only [Rs.bind_ok]
      cases f env m with
      | ok w m =>
        first
          | (simp only [Rs.bind_ok]; done)
          | (simp only [Rs.bind_ok]
             cases w with
             | d x => cases x <;> rfl
             | _ => rfl)
      | exc _ _ => rfl
      | stuck => rfl
    rw [e3]
    refine (hg B n0 A env m pe s h).bind baseV fun v w m1 s1 f1 w1 b1 r1 => ?_
    have h1 := h.step f1 w1 b1
    split
    · rename_i z
      rw [RdA.flat r1 rfl]
      obtain ⟨i', r', eB, e1', _, _, hh', hr', _⟩ := bag_at h1 e
      rw [e1] at e1'
      cases e1'
      have er : r' = r := by
        obtain ⟨_, _, eB2, _⟩ := h.bagv j e
        have hb := h1.bag
        have hb0 := h.bag
        subst eB
        have q1 := hb.2.2.2.1
        have q0 := hb0.2.2.2.1
        have hh0 := hh
        have e4 := q0.inj hh0
        injection e4 with e4
        injection e4 with _ e4
        injection e4 with _ e4
        injection e4 with _ e4
        injection e4 with e4 _
        injection e4
      subst er
      simp only [Rs.bind_ok]
      have rr : RdC m1 A (.lst (cutW (s1.xs.map fun x => .d (.int x)) (some z) none)) (.l (cutL (s1.xs.map .int) (some z) none)) := (rds_ints (m := m1) (A := A) s1.xs).cutL _ _
      have e5 : slO (.ref r') (some z) none m1 = some (.ref m1.cells.length, m1.push (.lst (cutW (s1.xs.map fun x => .d (.int x)) (some z) none))) := by
        show (match m1.cells[r']? with
          | some (.lst xs) => some (Wd.ref m1.cells.length, m1.push (.lst (cutW xs (some z) none)))
          | _ => none) = _
        rw [show m1.cells[r']? = some (.lst (s1.xs.map fun x => .d (.int x))) from hr']
      rw [e5]
      exact relE_of h1 (nx_new rr) (fr_new h1 rr (Nat.le_refl _))
    · trivial
  · trivial
/-- the bag's cell written -/
theorem bag_put (h : SR tl B n0 A env m pe s) {i r k : Nat} {x : Int} {s' : Bg} (eB : B = some (i, r)) (hx : 0 ≤ x) (e : s.put k x = some s') : SR tl B n0 A env (m.put i (.lst (bagL s' r)) true) pe s' ∧ St B n0 A m A (m.put i (.lst (bagL s' r)) true) := by
  subst eB
  obtain ⟨b1, b2, b3, b4, b5, b6⟩ := h.bag
  obtain ⟨p1, p2, p3, p4⟩ := put_at (r := r) e
  have eq : ∀ k, k ≠ i → (m.put i (.lst (bagL s' r)) true).cells[k]? = m.cells[k]? := fun k hk => List.getElem?_set_ne (Ne.symm hk)
  have mv : ∀ k c, Has m k c → k ∉ A → Has (m.put i (.lst (bagL s' r)) true) k c ∧ k ∉ A := fun k c hk hn => ⟨hk.put fun z => hn (by rw [← z]; exact b2), hn⟩
  have rlt : r < m.cells.length := h.alt r b3
  refine ⟨⟨h.wf.put b4 ?_ ?_, by rw [put_len]; exact h.le, h.len, fun j y e1 => ?_, h.bagv, fun j c e1 => ?_, h.dst, ⟨b1, b2, b3, has_put b4.lt, ?_, p4 hx b6⟩, fun k hk => by rw [put_len]; exact h.alt k hk, fun p hp => ?_⟩,
    by rw [put_len]; exact Nat.le_refl _, fun k hk hn => eq k fun z => hn (by rw [z]; exact List.mem_cons_self), fun k hk hn => eq k fun z => hn (by rw [z]; exact b2), fun k hk => .inl hk, fun k hk _ => hk⟩
  · show ((true && (true && (true && (decide (r < m.cells.length) && true)))) : Bool) = true
    simp [rlt]
  · intro _ b hb
    exact hb
  · obtain ⟨w', q1, q2⟩ := h.val j y e1
    exact ⟨w', q1, q2.mv mv⟩
  · obtain ⟨k', cl2, g1, g2, g3, g4, g5, g6⟩ := h.own j c e1
    exact ⟨k', cl2, g1, g2, g3, g4, g5.put fun z => g4 (by rw [← z]; exact List.mem_cons_self), g6.mv mv⟩
  · rw [p2]
    exact b5.put fun z => b1 z
  · obtain ⟨k, hk⟩ := h.tab p hp
    refine ⟨k, hk.put fun z => ?_⟩
    subst z
    have := b4.inj hk
    cases this
theorem sim_bagSet {j k : Nat} {z : Int} (hz : z = (k : Int)) (hg : SimE tl g f) : SimS tl (pBagSet j k g) (sSub (eV j) (eC (.d (.int z))) f) := fun B n0 A env m pe s h => by
  subst hz
  unfold pBagSet
  split
  · rename_i e
    refine relS_rs h (hg B n0 A env m pe s h) fun v w m1 s1 f1 w1 b1 r1 => ?_
    have h1 := h.step f1 w1 b1
    obtain ⟨i, r, eB, e1, _, _, hh, _⟩ := bag_at h1 e
    split
    · rename_i x
      rw [RdA.flat r1 rfl]
      by_cases hx : 0 ≤ x
      · rw [if_pos hx]
        cases ep : s1.put k x with
        | none => trivial
        | some s2 =>
          obtain ⟨p1, p2, p3, p4⟩ := put_at (r := r) ep
          obtain ⟨q1, q2⟩ := bag_put h1 eB hx ep
          have ev : eV j env m1 = .ok (.ref i) m1 := by unfold eV; rw [e1]
          have es : setO (.ref i) (.d (.int (k : Int))) (.d (.int x)) m1 = some (m1.put i (.lst (bagL s2 r)) true) := by
            unfold setO
            simp only [show m1.cells[i]? = some (.lst (bagL s1 r)) from hh, show (bagL s1 r).length = 4 from rfl, p3, p1]
            rfl
          rw [ev]
          show RelS tl B n0 A m1 _ (match setO (.ref i) (.d (.int (k : Int))) (.d (.int x)) m1 with
            | some m => Sr.go .nx env m
            | none => .stuck)
          rw [es]
          exact ⟨.nx, env, _, A, rfl, q2, q1⟩
      · rw [if_neg hx]; trivial
    · trivial
  · trivial
theorem sim_bagAug {j k : Nat} {z : Int} (hz : z = (k : Int)) (hg : SimE tl g f) : SimS tl (pBagAug j k g) (sAugL iaddO (eV j) (eC (.d (.int z))) f) := fun B n0 A env m pe s h => by
  subst hz
  unfold pBagAug
  split
  · rename_i y e ey
    obtain ⟨i, r, eB, e1, _, _, hh, _⟩ := bag_at h e
    have ev : eV j env m = .ok (.ref i) m := by unfold eV; rw [e1]
    have ex : ixLO (.ref i) (.d (.int (k : Int))) m = some (.d (.int y)) := by
      unfold ixLO
      simp only [show m.cells[i]? = some (.lst (bagL s r)) from hh]
      rw [if_pos (by omega)]
      exact (get_at (r := r) ey).2
    simp only [sAugL, ev, rs_ok, eC, ex]
    refine relS_rs h (hg B n0 A env m pe s h) fun v w m1 s1 f1 w1 b1 r1 => ?_
    have h1 := h.step f1 w1 b1
    obtain ⟨i', r', eB', e1', _, _, hh', _⟩ := bag_at h1 e
    rw [e1] at e1'
    cases e1'
    split
    · rename_i x z ez
      rw [RdA.flat r1 rfl]
      by_cases hx : 0 ≤ y + x ∧ z = y
      · rw [if_pos hx]
        cases ep : s1.put k (y + x) with
        | none => trivial
        | some s2 =>
          obtain ⟨p1, p2, p3, p4⟩ := put_at (r := r') ep
          obtain ⟨q1, q2⟩ := bag_put h1 eB' hx.1 ep
          have es : setO (.ref i) (.d (.int (k : Int))) (.d (.int (y + x))) m1 = some (m1.put i (.lst (bagL s2 r')) true) := by
            unfold setO
            simp only [show m1.cells[i]? = some (.lst (bagL s1 r')) from hh', show (bagL s1 r').length = 4 from rfl, p3, p1]
            rfl
          show RelS tl B n0 A m1 _ (match setO (.ref i) (.d (.int (k : Int))) (.d (.int (y + x))) m1 with
            | some m => Sr.go .nx env m
            | none => .stuck)
          rw [es]
          exact ⟨.nx, env, _, A, rfl, q2, q1⟩
      · rw [if_neg hx]; trivial
    · trivial
  · trivial
end
end PD
set_option Elab.async false
set_option linter.all false
set_option maxRecDepth 100000
set_option maxHeartbeats 2000000
namespace PD
open PySem PySem.Spec PyProof.Rows L2 DL Hn
/-! ### the bag made; the law's end -/
theorem lc_abs (w : Wd) {gd : Gd} {m : Mm} (hg : gdOk gd m = true) : ∀ (ks acc : List Int), acc.length + ks.length ≤ 63 →
    lcL (.name 1) (fun _ m => .ok true m) (eN absO (aC (eV 1) aN)) gd [some w, none] (ks.map fun i => .d (.int i)) (acc.map fun i => .d (.int i)) m = .ok ((acc ++ ks.map fun i => if i < 0 then -i else i).map fun i => .d (.int i)) m
  | [], acc, hl => by
    simp only [List.map_nil, List.append_nil]
    unfold lcL
    rw [if_pos hg]
  | k :: ks, acc, hl => by
    rw [List.map_cons]
    unfold lcL
    rw [if_pos hg]
    simp only [List.length_cons] at hl
    have ih := lc_abs w hg ks (acc ++ [if k < 0 then -k else k]) (by simp; omega)
    simp only [Tg.put, List.set, Rs.bind_ok, if_true]
    have e : eN absO (aC (eV 1) aN) [some w, some (.d (.int k))] m = .ok (.d (.int (if k < 0 then -k else k))) m := rfl
    rw [e]
    simp only [Rs.bind_ok]
    rw [if_pos (by rw [List.length_map]; show acc.length < 16777216; omega)]
    rw [List.map_append] at ih
    simp only [List.map_cons, List.map_nil, List.append_assoc, List.cons_append, List.nil_append] at ih ⊢
    exact ih
def bagMem (m : Mm) (c ks : List Int) : Mm := ((m.push (.lst (c.map fun i => .d (.int i)))).push (.lst (ks.map fun i => .d (.int i)))).push (.lst [.d (.int 0), .d (.int 1234567891), .d (.int 0), .ref (m.cells.length + 1)])
theorem bag_run {w : Wd} {m : Mm} {c : List Int} (hs : slO w none (some 63) m.openS = some (.ref m.cells.length, m.openS.push (.lst (c.map fun i => .d (.int i))))) (hc : c.length ≤ 63) :
    N__law_bag [w] m = .ok (.ref (m.cells.length + 2)) (bagMem m c (c.map fun i => if i < 0 then -i else i)) := by
  unfold N__law_bag runF b__law_bag
  have e0 : startE 2 [w] = [some w, none] := rfl
  rw [e0]
  have e1 : eSl (eV 0) oNone (oSome (eC (.d (.int 63)))) [some w, none] m.openS = .ok (.ref m.cells.length) (m.openS.push (.lst (c.map fun i => .d (.int i)))) := by
    show Rs.of (slO w none (some 63) m.openS) = _
    rw [hs]; rfl
  have h1 : Has (m.openS.push (.lst (c.map fun i => .d (.int i)))) m.cells.length (.lst (c.map fun i => .d (.int i))) := has_push (m := m.openS)
  have e2 : iVal (eSl (eV 0) oNone (oSome (eC (.d (.int 63))))) [some w, none] m.openS = .ok (c.map fun i => .d (.int i), [(m.cells.length, .lst (c.map fun i => .d (.int i)))]) (m.openS.push (.lst (c.map fun i => .d (.int i)))) := by
    unfold iVal
    rw [e1]
    simp only [Rs.bind_ok, show (m.openS.push (.lst (c.map fun i => .d (.int i)))).cells[m.cells.length]? = some (.lst (c.map fun i => .d (.int i))) from h1]
  have e3 : eLc (iVal (eSl (eV 0) oNone (oSome (eC (.d (.int 63)))))) (.name 1) (fun _ m => .ok true m) (eN absO (aC (eV 1) aN)) [1] [some w, none] m.openS =
      .ok (.ref (m.cells.length + 1)) ((m.openS.push (.lst (c.map fun i => .d (.int i)))).push (.lst ((c.map fun i => if i < 0 then -i else i).map fun i => .d (.int i)))) := by
    unfold eLc
    rw [e2]
    have k := lc_abs w (gdOk_one (show (m.openS.push (.lst (c.map fun i => .d (.int i)))).cells[m.cells.length]? = some (.lst (c.map fun i => .d (.int i))) from h1)) c [] (by simpa using hc)
    simp only [List.map_nil, List.nil_append] at k
    simp only [Rs.bind_ok]
    have ef : forget [1] [some w, (none : Option Wd)] = [some w, none] := rfl
    rw [ef, k]
    simp only [push_len]
    rfl
  simp only [sRet, eN, aC, aN, eC, e3, Rs.bind_ok, rs_ok]
  have e4 : lstO [Wd.d (.int 0), .d (.int 1234567891), .d (.int 0), .ref (m.cells.length + 1)] ((m.openS.push (.lst (c.map fun i => .d (.int i)))).push (.lst ((c.map fun i => if i < 0 then -i else i).map fun i => .d (.int i)))) =
      some (.ref (m.cells.length + 2), ((m.openS.push (.lst (c.map fun i => .d (.int i)))).push (.lst ((c.map fun i => if i < 0 then -i else i).map fun i => .d (.int i)))).push (.lst [Wd.d (.int 0), .d (.int 1234567891), .d (.int 0), .ref (m.cells.length + 1)])) := by
    unfold lstO
    rw [if_pos (show ([Wd.d (.int 0), Wd.d (.int 1234567891), Wd.d (.int 0), Wd.ref (m.cells.length + 1)] : List Wd).length ≤ LIM from (by decide : 4 ≤ 16777216))]
    simp only [push_len]
    rfl
  rw [e4]
  simp only [Rs.of, rs_ok]
  have hl : (Wd.ref (m.cells.length + 2)).lt m.cells.length = false := by
    show decide (m.cells.length + 2 < m.cells.length) = false
    simp
  rw [hl]
  show Rs.ok _ (Mm.closeS ⟨_, (m.cells.length, []) :: m.stk⟩ _ false) = _
  unfold Mm.closeS
  simp only [Bool.and_false, Bool.false_and, Bool.false_eq_true, if_false]
  rfl
theorem int_cell_lt (k : Nat) (l : List Int) : (Cell.lst (l.map fun i => .d (.int i))).lt k = true := by
  show Wd.ltAll k _ = true
  rw [ltAll_iff]
  intro w hw
  obtain ⟨i, _, e⟩ := List.mem_map.mp hw
  subst e; rfl
theorem begin_wf {tl : List (Str × Str)} {ns : List Int} {w : Wd} {m : Mm} (h : Begin tl ns w m) : WF m ∧ Tabs tl m ∧ m.stk = [] := by
  have tabs : ∀ (l : List Cell), ∀ p ∈ tl, ∃ k, Has ⟨tabCs tl ++ l, []⟩ k (.tab p.1 p.2) := fun l p hp => by
    obtain ⟨k, hk, e⟩ := List.getElem_of_mem hp
    refine ⟨k, ?_⟩
    show (tabCs tl ++ l)[k]? = _
    rw [List.getElem?_append_left (by simpa [tabCs] using hk)]
    unfold tabCs
    rw [List.getElem?_map, List.getElem?_eq_getElem hk, e]
    rfl
  have cl : ∀ (k : Nat) (c : Cell), (tabCs tl)[k]? = some c → ∀ b, c.lt b = true := fun k c h b => by
    unfold tabCs at h
    rw [List.getElem?_map] at h
    obtain ⟨p, _, e⟩ := Option.map_eq_some_iff.mp h
    subst e; rfl
  cases h with
  | rol =>
    refine ⟨⟨fun k c h => cl k c h _, (fun _ h => nomatch h), .nil, (fun _ h => nomatch h)⟩, ?_, rfl⟩
    intro p hp
    have := tabs [] p hp
    simpa using this
  | lst =>
    refine ⟨⟨fun k c h => ?_, (fun _ h => nomatch h), .nil, (fun _ h => nomatch h)⟩, tabs _, rfl⟩
    have h' : (tabCs tl ++ [.lst (ns.map fun i => .d (.int i))])[k]? = some c := h
    by_cases hk : k < (tabCs tl).length
    · rw [List.getElem?_append_left hk] at h'
      exact cl k c h' _
    · rw [List.getElem?_append_right (by omega)] at h'
      have : c = .lst (ns.map fun i => .d (.int i)) := by
        cases e : k - (tabCs tl).length with
        | zero => rw [e] at h'; simpa using h'.symm
        | succ q => rw [e] at h'; simp at h'
      rw [this]
      exact int_cell_lt _ _
theorem begin_cut {tl : List (Str × Str)} {ns : List Int} {w : Wd} {m : Mm} (h : Begin tl ns w m) : ∃ c : List Int, c.length ≤ 63 ∧ slO w none (some 63) m.openS.openS = some (.ref m.cells.length, m.openS.openS.push (.lst (c.map fun i => .d (.int i)))) := by
  have hc : ∃ c : List Int, cutW (ns.map fun i => Wd.d (.int i)) none (some 63) = c.map (fun i => Wd.d (.int i)) ∧ c.length ≤ 63 := by
    unfold cutW
    rw [← List.map_drop, ← List.map_take]
    refine ⟨_, rfl, ?_⟩
    rw [List.length_take]
    have : HT.sIx (ns.map fun i => Wd.d (.int i)).length (ns.map fun i => Wd.d (.int i)).length (some 63) ≤ 63 := by
      unfold HT.sIx
      simp
      omega
    omega
  obtain ⟨c, e, hl⟩ := hc
  refine ⟨c, hl, ?_⟩
  cases h with
  | rol =>
    show some (Wd.ref _, Mm.push _ (.lst (cutW _ none (some 63)))) = _
    rw [e]
    rfl
  | lst =>
    have hh : Has (Mm.openS (Mm.openS ⟨tabCs tl ++ [.lst (ns.map fun i => .d (.int i))], []⟩)) (tabCs tl).length (.lst (ns.map fun i => .d (.int i))) := by
      show (tabCs tl ++ [.lst (ns.map fun i => .d (.int i))])[(tabCs tl).length]? = _
      simp
    show (match (Mm.openS (Mm.openS ⟨tabCs tl ++ [.lst (ns.map fun i => .d (.int i))], []⟩)).cells[(tabCs tl).length]? with
      | some (.lst xs) => some (Wd.ref _, Mm.push _ (.lst (cutW xs none (some 63))))
      | _ => none) = _
    rw [show (Mm.openS (Mm.openS ⟨tabCs tl ++ [.lst (ns.map fun i => .d (.int i))], []⟩)).cells[(tabCs tl).length]? = _ from hh]
    simp only [e]
    rfl
def startLaw (n ib : Nat) : PEnv := (List.replicate n Sl.no).set ib .bag
theorem law_pd {tl : List (Str × Str)} {ns : List Int} {w : Wd} {m0 : Mm} (hb : Begin tl ns w m0) {n ib : Nat} {rest : Sm} {q : Ps} (hq : SimS tl q rest) (h0 : 0 < ib) (hib : ib < n) (hP : ∀ s, Good s → ∃ e' s', q (startLaw n ib) s = .go (.rt (.d (.bool true))) e' s') :
    ∃ m', runF n (sSeq (sSet ib (eCall 1 N__law_bag (aC (eV 0) aN))) rest) [w] m0 = .ok (.d (.bool true)) m' := by
  obtain ⟨wf, ht, hstk⟩ := begin_wf hb
  obtain ⟨c, hc, hs⟩ := begin_cut hb
  have run := bag_run (m := m0.openS) hs hc
  have hks : ∀ x ∈ (c.map fun i => if i < 0 then -i else i), (0 : Int) ≤ x := fun x hx => by
    obtain ⟨i, _, e⟩ := List.mem_map.mp hx
    subst e
    split <;> omega
  generalize hk : (c.map fun i => if i < 0 then -i else i) = ks at run hks
  have hkl : ks.length ≤ 63 := by rw [← hk]; simpa using hc
  have e0 : (startE n [w])[0]? = some (some w) := by unfold startE; rfl
  have ev : (sSet ib (eCall 1 N__law_bag (aC (eV 0) aN))) (startE n [w]) m0.openS = .go .nx ((startE n [w]).set ib (some (.ref (m0.cells.length + 2)))) (bagMem m0.openS c ks) := by
    unfold sSet eCall aC aN eV
    rw [e0]
    simp only [Rs.bind_ok]
    rw [if_pos (show [w].length = 1 from rfl), run]
    rfl
  let s : Bg := ⟨0, 1234567891, 0, ks⟩
  have hg : Good s := ⟨Int.le_refl 0, (by decide : (0 : Int) ≤ 1234567891), Int.le_refl 0, hks, hkl⟩
  have clen : (bagMem m0.openS c ks).cells.length = m0.cells.length + 3 := by
    unfold bagMem
    simp only [push_len]
    rfl
  have wf1 : WF (bagMem m0.openS c ks) := by
    unfold bagMem
    refine ((wf.openS.push (int_cell_lt _ _)).push (int_cell_lt _ _)).push ?_
    simp only [push_len]
    show ((true && (true && (true && (decide (m0.openS.cells.length + 1 < m0.openS.cells.length + 1 + 1) && true)))) : Bool) = true
    simp
  have hi : Has (bagMem m0.openS c ks) (m0.cells.length + 2) (.lst [.d (.int 0), .d (.int 1234567891), .d (.int 0), .ref (m0.cells.length + 1)]) := by
    unfold bagMem
    have := has_push (m := (m0.openS.push (.lst (c.map fun i => .d (.int i)))).push (.lst (ks.map fun i => .d (.int i)))) (c := .lst [.d (.int 0), .d (.int 1234567891), .d (.int 0), .ref (m0.cells.length + 1)])
    simp only [push_len] at this
    exact this
  have hr : Has (bagMem m0.openS c ks) (m0.cells.length + 1) (.lst (ks.map fun i => .d (.int i))) := by
    unfold bagMem
    have := has_push (m := m0.openS.push (.lst (c.map fun i => .d (.int i)))) (c := .lst (ks.map fun i => .d (.int i)))
    simp only [push_len] at this
    exact this.push
  have slots : ∀ (i : Nat) sl, (startLaw n ib)[i]? = some sl → sl = .no ∨ (i = ib ∧ sl = .bag) := fun i sl e => by
    unfold startLaw at e
    rcases set_cases e with ⟨e1, _, e2⟩ | ⟨_, e⟩
    · exact .inr ⟨e1, e2⟩
    · rw [List.getElem?_replicate] at e
      split at e
      · cases e; exact .inl rfl
      · cases e
  have h : SR tl (some (m0.cells.length + 2, m0.cells.length + 1)) m0.cells.length [m0.cells.length + 2, m0.cells.length + 1] ((startE n [w]).set ib (some (.ref (m0.cells.length + 2)))) (bagMem m0.openS c ks) (startLaw n ib) s := by
    refine ⟨wf1, by rw [clen]; omega, ?_, fun i x e => ?_, fun i e => ?_, fun i c' e => ?_, fun i j c' c2 k e _ _ _ => ?_, ⟨by omega, List.mem_cons_self, List.mem_cons_of_mem _ List.mem_cons_self, hi, hr, hg⟩, fun k hk => ?_, fun p hp => ?_⟩
    · unfold startE startLaw
      simp
      omega
    · rcases slots i _ e with z | ⟨_, z⟩ <;> cases z
    · rcases slots i _ e with z | ⟨z, _⟩
      · cases z
      · subst z
        refine ⟨_, _, rfl, List.getElem?_set_self ?_⟩
        unfold startE
        simp
        omega
    · rcases slots i _ e with z | ⟨_, z⟩ <;> cases z
    · rcases slots i _ e with z | ⟨_, z⟩ <;> cases z
    · rw [clen]
      simp at hk
      omega
    · obtain ⟨k, hk⟩ := ht p hp
      have hk' : Has m0.openS k (.tab p.1 p.2) := hk
      exact ⟨k, ((hk'.push).push).push⟩
  obtain ⟨e', s', eP⟩ := hP s hg
  have r := hq _ _ _ _ _ _ _ h
  rw [eP] at r
  obtain ⟨fl', env', m', A', e1, st, r⟩ := r
  cases fl' with
  | rt w' =>
    have rd : RdA m' A' w' (.bool true) := r.2.2
    have ew := rd.flat rfl
    subst ew
    refine ⟨m'.closeS m0.cells.length ((Wd.d (.bool true)).lt m0.cells.length), ?_⟩
    unfold runF sSeq
    rw [ev]
    simp only [Sr.seq, e1]
  | _ => exact r.elim
end PD
set_option Elab.async false
set_option linter.all false
set_option maxRecDepth 100000
set_option maxHeartbeats 2000000
namespace Hn
open PySem PySem.Spec PyProof.Rows L2 DL PD 
noncomputable section
/-- _law_take(bag, many): 0=bag 1=many 2=cell 3=stirred 4=value 5=begin 6=second -/
def q__law_take : Ps :=
pSeq (pIfS (b2P pEq (pBagIx 0 0) (pC (.int 0)))
(pSeq (pSetF 2 (p2 pIx (p2 pAdd (pBagCut 0 (pBagIx 0 2)) (pN pLst (paC (pC (.int 0)) paN))) (pC (.int 0)))) <|
pSeq (pBagAug 0 2 (pC (.int 1))) <|
pSeq (pIfS (b2P pGe (pV 2) (p2 pPow (pC (.int 10)) (pC (.int 18))))
(pBagSet 0 0 (pV 2))
(pNop)) <|
pSeq (pSetF 3 (p2 pAdd (p2 pAdd (p2 pMul (pBagIx 0 1) (pC (.int 48271))) (p2 pMod (pN pInt1 (paC (pV 2) paN)) (pC (.int 2147483647)))) (p2 pMul (pC (.int 7919)) (pBagIx 0 2)))) <|
pBagSet 0 1 (p2 pMod (pN pInt1 (paC (pV 3) paN)) (pC (.int 2147483647))))
(pNop)) <|
pSeq (pIfS (b2P pGt (pBagIx 0 0) (pC (.int 0)))
(pSeq (pSetF 4 (p2 pMod (pN pInt1 (paC (pBagIx 0 0) paN)) (pV 1))) <|
pSeq (pBagSet 0 0 (p2 pFdiv (pN pInt1 (paC (pBagIx 0 0) paN)) (pV 1))) <|
pRet (pV 4))
(pNop)) <|
pSeq (pSetF 5 (p2 pMod (pN pInt1 (paC (p2 pMul (p2 pAdd (pBagIx 0 1) (pC (.int 1))) (pC (.int 39373))) paN)) (pC (.int 1000000007)))) <|
pSeq (pSetF 6 (p2 pMod (pN pInt1 (paC (p2 pMul (p2 pMod (pN pInt1 (paC (p2 pMul (pV 5) (pV 5)) paN)) (pC (.int 998244353))) (pC (.int 30011))) paN)) (pC (.int 998244353)))) <|
pRet (p2 pMod (pN pInt1 (paC (p2 pFdiv (pV 6) (pC (.int 7))) paN)) (pV 1))
@[irreducible] def P__law_take : PFn := runP 7 q__law_take
/-- _law_some(bag, things): 0=bag 1=things -/
def q__law_some : Ps :=
pRet (p2 pIx (pV 1) (pCall 2 P__law_take (paC (pV 0) (paC (pN pLen (paC (pV 1) paN)) paN))))
@[irreducible] def P__law_some : PFn := runP 2 q__law_some
/-- _law_alike(found, due): 0=found 1=due 2=pairs 3=at 4=one 5=other -/
def q__law_alike : Ps :=
pSeq (pPar [2, 3] [true, false] (paC (pN pLst (paC (pN pTup (paC (pV 0) (paC (pV 1) paN))) paN)) (paC (pC (.int 0)) paN))) <|
pSeq (pWh (b2P pLt (pV 3) (pN pLen (paC (pV 2) paN)))
(pSeq (pAsg (.tup [.name 4, .name 5]) (p2 pIx (pV 2) (pV 3))) <|
pSeq (pAug 3 pIadd (pC (.int 1))) <|
pSeq (pIfS (bOrP (b2P pNe (p1 (pIsi ["bool"]) (pV 4)) (p1 (pIsi ["bool"]) (pV 5))) (b2P pNe (p1 (pIsi ["str"]) (pV 4)) (p1 (pIsi ["str"]) (pV 5))))
(pRet (pC (.bool false)))
(pNop)) <|
pSeq (pIfS (b2P pNe (p1 (pIsi ["tuple", "list"]) (pV 4)) (p1 (pIsi ["tuple", "list"]) (pV 5)))
(pRet (pC (.bool false)))
(pNop)) <|
pIfS (bVP (p1 (pIsi ["tuple", "list"]) (pV 4)))
(pSeq (pIfS (bOrP (b2P pNe (p1 (pIsi ["tuple"]) (pV 4)) (p1 (pIsi ["tuple"]) (pV 5))) (b2P pNe (pN pLen (paC (pV 4) paN)) (pN pLen (paC (pV 5) paN))))
(pRet (pC (.bool false)))
(pNop)) <|
pExt 2 (paC (pN pLz (paC (pV 4) (paC (pV 5) paN))) paN))
(pIfS (b2P pNe (pV 4) (pV 5))
(pRet (pC (.bool false)))
(pNop)))) <|
pRet (pC (.bool true))
@[irreducible] def P__law_alike : PFn := runP 6 q__law_alike
end
theorem sf__law_take {tl : List (Str × Str)} : SimF tl P__law_take N__law_take := by
  unfold P__law_take N__law_take
  exact sim_run ((sim_seq (sim_if (sim_b2 op_eq (sim_bagIx rfl) (sim_C rfl))
(sim_seq (sim_setF (sim_2 op_ix (sim_2 op_add (sim_bagCut (sim_bagIx rfl)) (sim_N op_lst (sim_aC (sim_C rfl) sim_aN))) (sim_C rfl))) <|
(sim_seq (sim_bagAug rfl (sim_C rfl)) <|
(sim_seq (sim_if (sim_b2 op_ge sim_V (sim_2 op_pow (sim_C rfl) (sim_C rfl)))
(sim_bagSet rfl sim_V)
sim_nop) <|
(sim_seq (sim_setF (sim_2 op_add (sim_2 op_add (sim_2 op_mul (sim_bagIx rfl) (sim_C rfl)) (sim_2 op_mod (sim_N op_int1 (sim_aC sim_V sim_aN)) (sim_C rfl))) (sim_2 op_mul (sim_C rfl) (sim_bagIx rfl)))) <|
(sim_bagSet rfl (sim_2 op_mod (sim_N op_int1 (sim_aC sim_V sim_aN)) (sim_C rfl)))))))
sim_nop) <|
(sim_seq (sim_if (sim_b2 op_gt (sim_bagIx rfl) (sim_C rfl))
(sim_seq (sim_setF (sim_2 op_mod (sim_N op_int1 (sim_aC (sim_bagIx rfl) sim_aN)) sim_V)) <|
(sim_seq (sim_bagSet rfl (sim_2 op_fdiv (sim_N op_int1 (sim_aC (sim_bagIx rfl) sim_aN)) sim_V)) <|
(sim_ret sim_V)))
sim_nop) <|
(sim_seq (sim_setF (sim_2 op_mod (sim_N op_int1 (sim_aC (sim_2 op_mul (sim_2 op_add (sim_bagIx rfl) (sim_C rfl)) (sim_C rfl)) sim_aN)) (sim_C rfl))) <|
(sim_seq (sim_setF (sim_2 op_mod (sim_N op_int1 (sim_aC (sim_2 op_mul (sim_2 op_mod (sim_N op_int1 (sim_aC (sim_2 op_mul sim_V sim_V) sim_aN)) (sim_C rfl)) (sim_C rfl)) sim_aN)) (sim_C rfl))) <|
(sim_ret (sim_2 op_mod (sim_N op_int1 (sim_aC (sim_2 op_fdiv sim_V (sim_C rfl)) sim_aN)) sim_V)))))))
theorem sf__law_some {tl : List (Str × Str)} : SimF tl P__law_some N__law_some := by
  unfold P__law_some N__law_some
  exact sim_run ((sim_ret (sim_2 op_ix sim_V (sim_call (sf__law_take) (sim_aC sim_V (sim_aC (sim_N op_len (sim_aC sim_V sim_aN)) sim_aN))))))
theorem sf__law_alike {tl : List (Str × Str)} : SimF tl P__law_alike N__law_alike := by
  unfold P__law_alike N__law_alike
  exact sim_run ((sim_seq (sim_par (sim_aC (sim_N op_lst (sim_aC (sim_N op_tup (sim_aC sim_V (sim_aC sim_V sim_aN))) sim_aN)) (sim_aC (sim_C rfl) sim_aN))) <|
(sim_seq (sim_wh (sim_b2 op_lt sim_V (sim_N op_len (sim_aC sim_V sim_aN)))
(sim_seq (sim_asg (sim_2 op_ix sim_V sim_V)) <|
(sim_seq (sim_aug op_iadd (sim_C rfl)) <|
(sim_seq (sim_if (sim_bOr (sim_b2 op_ne (sim_1 op_isi sim_V) (sim_1 op_isi sim_V)) (sim_b2 op_ne (sim_1 op_isi sim_V) (sim_1 op_isi sim_V)))
(sim_ret (sim_C rfl))
sim_nop) <|
(sim_seq (sim_if (sim_b2 op_ne (sim_1 op_isi sim_V) (sim_1 op_isi sim_V))
(sim_ret (sim_C rfl))
sim_nop) <|
(sim_if (sim_bV (sim_1 op_isi sim_V))
(sim_seq (sim_if (sim_bOr (sim_b2 op_ne (sim_1 op_isi sim_V) (sim_1 op_isi sim_V)) (sim_b2 op_ne (sim_N op_len (sim_aC sim_V sim_aN)) (sim_N op_len (sim_aC sim_V sim_aN))))
(sim_ret (sim_C rfl))
sim_nop) <|
(sim_ext (sim_aC (sim_N op_lz (sim_aC sim_V (sim_aC sim_V sim_aN))) sim_aN)))
(sim_if (sim_b2 op_ne sim_V sim_V)
(sim_ret (sim_C rfl))
sim_nop))))))) <|
(sim_ret (sim_C rfl)))))
end Hn
set_option Elab.async false
set_option linter.all false
set_option maxRecDepth 100000
set_option maxHeartbeats 2000000
/-! PQ: what plain data does, asked for what holds behind it. -/
namespace PD
open PySem PySem.Spec PyProof.Rows L2 DL
def slV (i : Nat) : Option Sl → Option PV
  | some (.d x) => some (.d x)
  | some (.own c) => some (.bo i c)
  | some .bag => some .bag
  | _ => none
def slD : Option Sl → Option PyData
  | some (.d x) => some x
  | _ => none
def slL : Option Sl → Option (List PyData)
  | some (.own (.l xs)) => some xs
  | _ => none
def wE {α : Type} (r : PR α) (Q : α → Bg → Prop) (X : PEx → Bg → Prop) : Prop := match r with
  | .ok v s => Q v s
  | .exc x s => X x s
  | .stuck => False
def wO {α : Type} (o : Option α) (Q : α → Prop) : Prop := match o with
  | some v => Q v
  | none => False
def wS (r : PS) (K : PEnv → Bg → Prop) (Q : PFl → PEnv → Bg → Prop) (X : PEx → PEnv → Bg → Prop) : Prop := match r with
  | .go .nx e s => K e s
  | .go f e s => Q f e s
  | .exc x e s => X x e s
  | .stuck => False
section
variable {α β : Type} {e : PEnv} {s : Bg} {X : PEx → Bg → Prop} {XS : PEx → PEnv → Bg → Prop} {K : PEnv → Bg → Prop} {QS : PFl → PEnv → Bg → Prop} {Q : PV → Bg → Prop} {QB : Bool → Bg → Prop} {ga gb gc : Pe PV} {c c' : Pe Bool} {f g : Ps}
theorem wE_ok {a : α} {Q : α → Bg → Prop} : wE (.ok a s) Q X ↔ Q a s := Iff.rfl
theorem wE_exc {x : PEx} {Q : α → Bg → Prop} : wE (.exc x s) Q X ↔ X x s := Iff.rfl
theorem wE_stuck {Q : α → Bg → Prop} : wE (.stuck : PR α) Q X ↔ False := Iff.rfl
theorem wE_bind {r : PR α} {k : α → Bg → PR β} {Q : β → Bg → Prop} : wE (r.bind k) Q X ↔ wE r (fun a s => wE (k a s) Q X) X := by cases r <;> exact Iff.rfl
theorem wE_of {o : Option α} {Q : α → Bg → Prop} : wE (PR.of o s) Q X ↔ wO o fun v => Q v s := by cases o <;> exact Iff.rfl
theorem wO_some {a : α} {Q : α → Prop} : wO (some a) Q ↔ Q a := Iff.rfl
theorem wO_none {Q : α → Prop} : wO none Q ↔ False := Iff.rfl
theorem wE_mono {r : PR α} {Q Q' : α → Bg → Prop} {X' : PEx → Bg → Prop} (h : wE r Q X) (i : ∀ a s, Q a s → Q' a s) (j : ∀ x s, X x s → X' x s) : wE r Q' X' := by
  cases r with
  | ok a s => exact i a s h
  | exc x s => exact j x s h
  | stuck => exact h.elim
theorem wS_mono {r : PS} {K K' : PEnv → Bg → Prop} {Q Q' : PFl → PEnv → Bg → Prop} {X' : PEx → PEnv → Bg → Prop} (h : wS r K Q XS) (i : ∀ e s, K e s → K' e s) (j : ∀ f e s, Q f e s → Q' f e s) (k : ∀ x e s, XS x e s → X' x e s) : wS r K' Q' X' := by
  cases r with
  | go f e s => cases f <;> first | exact i _ _ h | exact j _ _ _ h
  | exc x e s => exact k _ _ _ h
  | stuck => exact h.elim
theorem w_C {x : PyData} : wE (pC x e s) Q X ↔ Q (.d x) s := Iff.rfl
theorem w_V {i : Nat} : wE (pV i e s) Q X ↔ wO (slV i e[i]?) fun v => Q v s := by
  unfold pV
  cases e[i]? with
  | none => exact Iff.rfl
  | some sl => cases sl <;> exact Iff.rfl
theorem w_1 {p : PV → Option PV} : wE (p1 p ga e s) Q X ↔ wE (ga e s) (fun a s => wO (p a) fun v => Q v s) X := by unfold p1; simp only [wE_bind, wE_of]
theorem w_2 {p : PV → PV → Option PV} : wE (p2 p ga gb e s) Q X ↔ wE (ga e s) (fun a s => wE (gb e s) (fun b s => wO (p a b) fun v => Q v s) X) X := by unfold p2; simp only [wE_bind, wE_of]
theorem w_N {p : List PV → Option PV} {g : Pe (List PV)} : wE (pN p g e s) Q X ↔ wE (g e s) (fun a s => wO (p a) fun v => Q v s) X := by unfold pN; simp only [wE_bind, wE_of]
theorem w_aN {Q : List PV → Bg → Prop} : wE (paN e s) Q X ↔ Q [] s := Iff.rfl
theorem w_aC {r : Pe (List PV)} {Q : List PV → Bg → Prop} : wE (paC ga r e s) Q X ↔ wE (ga e s) (fun v s => wE (r e s) (fun vs s => Q (v :: vs) s) X) X := by unfold paC; simp only [wE_bind, wE_ok]
theorem w_aS {r : Pe (List PV)} {Q : List PV → Bg → Prop} : wE (paS ga r e s) Q X ↔ wE (ga e s) (fun v s => wO (seqP v) fun xs => wE (r e s) (fun vs s => Q (xs.map .d ++ vs) s) X) X := by
  unfold paS
  rw [wE_bind]
  constructor <;> refine fun h => wE_mono h (fun v s h => ?_) (fun _ _ h => h)
  · cases q : seqP v with
    | none => rw [q] at h; exact h.elim
    | some xs => rw [q] at h; simp only [wE_bind, wE_ok] at h; exact h
  · cases q : seqP v with
    | none => rw [q] at h; exact h.elim
    | some xs => rw [q] at h; simp only [wE_bind, wE_ok]; exact h
theorem w_call {n : Nat} {P : PFn} {g : Pe (List PV)} : wE (pCall n P g e s) Q X ↔ wE (g e s) (fun vs s => wO (frzA vs) fun us => us.length = n ∧ wE (P us s) Q X) X := by
  unfold pCall
  rw [wE_bind]
  constructor <;> refine fun h => wE_mono h (fun v s h => ?_) (fun _ _ h => h)
  · cases q : frzA v with
    | none => rw [q] at h; exact h.elim
    | some us =>
      rw [q] at h
      simp only [] at h
      by_cases hn : us.length = n
      · rw [if_pos hn] at h; exact ⟨hn, h⟩
      · rw [if_neg hn] at h; exact h.elim
  · cases q : frzA v with
    | none => rw [q] at h; exact h.elim
    | some us =>
      rw [q] at h
      simp only []
      rw [if_pos h.1]; exact h.2
theorem w_b2 {p : PV → PV → Option PV} : wE (b2P p ga gb e s) QB X ↔ wE (ga e s) (fun a s => wE (gb e s) (fun b s => wO (p a b) fun v => wO (boolP v) fun k => QB k s) X) X := by unfold b2P; simp only [wE_bind, wE_of, w_2]
theorem w_bV : wE (bVP ga e s) QB X ↔ wE (ga e s) (fun a s => wO (truP a) fun k => QB k s) X := by unfold bVP; simp only [wE_bind, wE_of]
theorem w_bAnd : wE (bAndP c c' e s) QB X ↔ wE (c e s) (fun b s => if b = true then wE (c' e s) QB X else QB false s) X := by
  unfold bAndP
  rw [wE_bind]
  constructor <;> refine fun h => wE_mono h (fun v s h => ?_) (fun _ _ h => h) <;> (cases v <;> exact h)
theorem w_bOr : wE (bOrP c c' e s) QB X ↔ wE (c e s) (fun b s => if b = true then QB true s else wE (c' e s) QB X) X := by
  unfold bOrP
  rw [wE_bind]
  constructor <;> refine fun h => wE_mono h (fun v s h => ?_) (fun _ _ h => h) <;> (cases v <;> exact h)
theorem w_bNot : wE (bNotP c e s) QB X ↔ wE (c e s) (fun b s => QB (!b) s) X := by unfold bNotP; rw [wE_bind]; exact Iff.rfl
theorem w_bTrue : wE (bTrueP e s) QB X ↔ QB true s := Iff.rfl
theorem w_If : wE (pIf c ga gb e s) Q X ↔ wE (c e s) (fun b s => if b = true then wE (ga e s) Q X else wE (gb e s) Q X) X := by
  unfold pIf
  rw [wE_bind]
  constructor <;> refine fun h => wE_mono h (fun v s h => ?_) (fun _ _ h => h) <;> (cases v <;> exact h)
theorem w_And : wE (pAndE ga gb e s) Q X ↔ wE (ga e s) (fun v s => wO (truP v) fun k => if k = true then wE (gb e s) Q X else Q v s) X := by
  unfold pAndE
  rw [wE_bind]
  constructor <;> refine fun h => wE_mono h (fun v s h => ?_) (fun _ _ h => h)
  · cases q : truP v with
    | none => rw [q] at h; exact h.elim
    | some k => rw [q] at h; cases k <;> exact h
  · cases q : truP v with
    | none => rw [q] at h; exact h.elim
    | some k => rw [q] at h; cases k <;> exact h
theorem w_Or : wE (pOrE ga gb e s) Q X ↔ wE (ga e s) (fun v s => wO (truP v) fun k => if k = true then Q v s else wE (gb e s) Q X) X := by
  unfold pOrE
  rw [wE_bind]
  constructor <;> refine fun h => wE_mono h (fun v s h => ?_) (fun _ _ h => h)
  · cases q : truP v with
    | none => rw [q] at h; exact h.elim
    | some k => rw [q] at h; cases k <;> exact h
  · cases q : truP v with
    | none => rw [q] at h; exact h.elim
    | some k => rw [q] at h; cases k <;> exact h
theorem w_Not : wE (pNotE ga e s) Q X ↔ wE (ga e s) (fun v s => wO (truP v) fun k => Q (.d (.bool !k)) s) X := by
  unfold pNotE
  rw [wE_bind]
  constructor <;> refine fun h => wE_mono h (fun v s h => ?_) (fun _ _ h => h)
  · cases q : truP v with
    | none => rw [q] at h; exact h.elim
    | some k => rw [q] at h; exact h
  · cases q : truP v with
    | none => rw [q] at h; exact h.elim
    | some k => rw [q] at h; exact h
theorem w_Ch {p p' : PV → PV → Option PV} : wE (pCh p p' ga gb gc e s) Q X ↔ wE (ga e s) (fun a s => wE (gb e s) (fun b s => wO (p a b) fun z => wO (boolP z) fun k => if k = true then wE (gc e s) (fun c s => wO (p' b c) fun v => Q v s) X else Q (.d (.bool false)) s) X) X := by
  unfold pCh
  simp only [wE_bind, wE_of]
  constructor <;> refine fun h => wE_mono h (fun a s h => wE_mono h (fun b s h => ?_) (fun _ _ h => h)) (fun _ _ h => h)
  · cases q : p a b with
    | none => rw [q] at h; exact h.elim
    | some z =>
      rw [q] at h
      simp only [wO_some] at h ⊢
      cases q2 : boolP z with
      | none => rw [q2] at h; exact h.elim
      | some k =>
        rw [q2] at h
        cases k with
        | false => exact h
        | true =>
          have h' : wE ((gc e s).bind fun c s => PR.of (p' b c) s) Q X := h
          simp only [wE_bind, wE_of] at h'
          exact h'
  · cases q : p a b with
    | none => rw [q] at h; exact h.elim
    | some z =>
      rw [q] at h
      simp only [wO_some] at h ⊢
      cases q2 : boolP z with
      | none => rw [q2] at h; exact h.elim
      | some k =>
        rw [q2] at h
        cases k with
        | false => exact h
        | true =>
          show wE ((gc e s).bind fun c s => PR.of (p' b c) s) Q X
          simp only [wE_bind, wE_of]
          exact h
theorem w_bCh {p p' : PV → PV → Option PV} : wE (bChP p p' ga gb gc e s) QB X ↔ wE (pCh p p' ga gb gc e s) (fun w s => wO (boolP w) fun k => QB k s) X := by unfold bChP; simp only [wE_bind, wE_of]
theorem w_oN {Q : Option Int → Bg → Prop} : wE (oNoneP e s) Q X ↔ Q none s := Iff.rfl
def intV : PV → Option Int
  | .d (.int i) => some i
  | _ => none
theorem w_oS {Q : Option Int → Bg → Prop} : wE (oSomeP ga e s) Q X ↔ wE (ga e s) (fun v s => wO (intV v) fun i => Q (some i) s) X := by
  unfold oSomeP
  rw [wE_bind]
  have key : ∀ v s, wE (match v with | .d (.int i) => PR.ok (some i) s | _ => (PR.stuck : PR (Option Int))) Q X ↔ wO (intV v) fun i => Q (some i) s := fun v s => by
    cases v with
    | d x => cases x <;> exact Iff.rfl
    | _ => exact Iff.rfl
  constructor <;> refine fun h => wE_mono h (fun v s h => ?_) (fun _ _ h => h)
  · exact (key v s).mp h
  · exact (key v s).mpr h
theorem w_Sl {lo hi : Pe (Option Int)} : wE (pSl ga lo hi e s) Q X ↔ wE (ga e s) (fun v s => wE (lo e s) (fun l s => wE (hi e s) (fun h s => wO (pCut v l h) fun w => Q w s) X) X) X := by unfold pSl; simp only [wE_bind, wE_of]
theorem w_Rv : wE (pRv ga e s) Q X ↔ wE (ga e s) (fun v s => wO (revP v) fun w => Q w s) X := by unfold pRv; simp only [wE_bind, wE_of]
def strV : PV → Option Str
  | .d (.str i) => some i
  | _ => none
theorem w_Join : wE (pJoin ga gb e s) Q X ↔ wE (ga e s) (fun v s => wO (strV v) fun a => wE (gb e s) (fun y s => wO (joinP a y) fun w => Q w s) X) X := by
  unfold pJoin
  rw [wE_bind]
  have key : ∀ v s, wE (match v with | .d (.str a) => (gb e s).bind fun y s => PR.of (joinP a y) s | _ => (PR.stuck : PR PV)) Q X ↔ wO (strV v) fun a => wE (gb e s) (fun y s => wO (joinP a y) fun w => Q w s) X := fun v s => by
    cases v with
    | d x =>
      cases x with
      | str a =>
        show wE ((gb e s).bind fun y s => PR.of (joinP a y) s) Q X ↔ _
        simp only [wE_bind, wE_of]
        exact Iff.rfl
      | _ => exact Iff.rfl
    | _ => exact Iff.rfl
  constructor <;> refine fun h => wE_mono h (fun v s h => ?_) (fun _ _ h => h)
  · exact (key v s).mp h
  · exact (key v s).mpr h
theorem w_Lc {g : Pe PIt} {t : Tg} {own : List Nat} : wE (pLc g t c ga own e s) Q X ↔ wE (g e s) (fun p s => wE (plcL t c ga (forgetP own e) p.xs [] s) (fun xs s => Q (.fr (.l xs)) s) (fun _ _ => False)) X := by
  unfold pLc
  rw [wE_bind]
  constructor <;> refine fun h => wE_mono h (fun p s h => ?_) (fun _ _ h => h)
  · cases q : plcL t c ga (forgetP own e) p.xs [] s with
    | ok xs s => rw [q] at h; exact h
    | exc _ _ => rw [q] at h; exact h.elim
    | stuck => rw [q] at h; exact h.elim
  · cases q : plcL t c ga (forgetP own e) p.xs [] s with
    | ok xs s => rw [q] at h; exact h
    | exc _ _ => rw [q] at h; exact h.elim
    | stuck => rw [q] at h; exact h.elim
theorem w_iV {Q : PIt → Bg → Prop} : wE (piV ga e s) Q X ↔ wE (ga e s) (fun v s => wO (itP v) fun p => Q p s) X := by unfold piV; simp only [wE_bind, wE_of]
theorem w_iR1 {g : Pe (List PV)} {Q : PIt → Bg → Prop} : wE (piR1 g e s) Q X ↔ wE (g e s) (fun v s => wO (ran1P v) fun p => Q p s) X := by unfold piR1; simp only [wE_bind, wE_of]
theorem w_iR2 {g : Pe (List PV)} {Q : PIt → Bg → Prop} : wE (piR2 g e s) Q X ↔ wE (g e s) (fun v s => wO (ran2P v) fun p => Q p s) X := by unfold piR2; simp only [wE_bind, wE_of]
/-! statements -/
theorem wS_prs {r : PR α} {k : α → Bg → PS} : wS (prs r e k) K QS XS ↔ wE r (fun a s => wS (k a s) K QS XS) (fun x s => XS x e s) := by cases r <;> exact Iff.rfl
theorem w_seq : wS (pSeq f g e s) K QS XS ↔ wS (f e s) (fun e s => wS (g e s) K QS XS) QS XS := by
  unfold pSeq
  cases f e s with
  | go fl e1 s1 => cases fl <;> exact Iff.rfl
  | exc _ _ _ => exact Iff.rfl
  | stuck => exact Iff.rfl
theorem w_nop : wS (pNop e s) K QS XS ↔ K e s := Iff.rfl
theorem w_drop : wS (pDrop ga e s) K QS XS ↔ wE (ga e s) (fun _ s => K e s) (fun x s => XS x e s) := by unfold pDrop; rw [wS_prs]; exact Iff.rfl
theorem w_ret : wS (pRet ga e s) K QS XS ↔ wE (ga e s) (fun v s => wO (retV v) fun v => QS (.rt v) e s) (fun x s => XS x e s) := by
  unfold pRet
  rw [wS_prs]
  constructor <;> refine fun h => wE_mono h (fun v s h => ?_) (fun _ _ h => h)
  · cases q : retV v with
    | none => rw [q] at h; exact h.elim
    | some v => rw [q] at h; exact h
  · cases q : retV v with
    | none => rw [q] at h; exact h.elim
    | some v => rw [q] at h; exact h
theorem w_retN : wS (pRetN e s) K QS XS ↔ QS (.rt (.d .none)) e s := Iff.rfl
theorem w_bk : wS (pBk e s) K QS XS ↔ QS .bk e s := Iff.rfl
theorem w_ct : wS (pCt e s) K QS XS ↔ QS .ct e s := Iff.rfl
theorem w_ifS : wS (pIfS c f g e s) K QS XS ↔ wE (c e s) (fun b s => if b = true then wS (f e s) K QS XS else wS (g e s) K QS XS) (fun x s => XS x e s) := by
  unfold pIfS
  rw [wS_prs]
  constructor <;> refine fun h => wE_mono h (fun v s h => ?_) (fun _ _ h => h) <;> (cases v <;> exact h)
theorem w_set {i : Nat} : wS (pSet i ga e s) K QS XS ↔ wE (ga e s) (fun v s => wO (setV i v e) fun e => K e s) (fun x s => XS x e s) := by
  unfold pSet
  rw [wS_prs]
  constructor <;> refine fun h => wE_mono h (fun v s h => ?_) (fun _ _ h => h)
  · cases q : setV i v e with
    | none => rw [q] at h; exact h.elim
    | some v => rw [q] at h; exact h
  · cases q : setV i v e with
    | none => rw [q] at h; exact h.elim
    | some v => rw [q] at h; exact h
theorem w_setF {i : Nat} : wS (pSetF i ga e s) K QS XS ↔ wE (ga e s) (fun v s => wO (frz v) fun x => K (e.set i (.d x)) s) (fun x s => XS x e s) := by
  unfold pSetF setF
  rw [wS_prs]
  constructor <;> refine fun h => wE_mono h (fun v s h => ?_) (fun _ _ h => h)
  · cases q : frz v with
    | none => rw [q] at h; exact h.elim
    | some v => rw [q] at h; exact h
  · cases q : frz v with
    | none => rw [q] at h; exact h.elim
    | some v => rw [q] at h; exact h
theorem w_fz {j : Nat} : wS (pFz j g e s) K QS XS ↔ wS (match e[j]? with | some (.own c) => g (e.set j (.d c.toD)) s | _ => g e s) K QS XS := Iff.rfl
theorem w_asg {t : Tg} : wS (pAsg t ga e s) K QS XS ↔ wE (ga e s) (fun v s => wO (frz v) fun x => wO (putP t x e) fun e => K e s) (fun x s => XS x e s) := by
  unfold pAsg
  rw [wS_prs]
  constructor <;> refine fun h => wE_mono h (fun v s h => ?_) (fun _ _ h => h)
  · cases q : frz v with
    | none => rw [q] at h; exact h.elim
    | some x =>
      simp only [q] at h
      rw [wO_some]
      cases q2 : putP t x e with
      | none => rw [q2] at h; exact h.elim
      | some e1 => rw [q2] at h; exact h
  · cases q : frz v with
    | none => rw [q] at h; exact h.elim
    | some x =>
      rw [q, wO_some] at h
      simp only []
      cases q2 : putP t x e with
      | none => rw [q2] at h; exact h.elim
      | some e1 => rw [q2] at h; exact h
theorem w_aug {i : Nat} {p : PV → PV → Option PV} : wS (pAug i p ga e s) K QS XS ↔ wO (slD e[i]?) fun x => wE (ga e s) (fun y s => wO (p (.d x) y) fun v => wO (frz v) fun z => K (e.set i (.d z)) s) (fun x s => XS x e s) := by
  unfold pAug
  cases e[i]? with
  | none => exact Iff.rfl
  | some sl =>
    cases sl with
    | no => exact Iff.rfl
    | own c => exact Iff.rfl
    | bag => exact Iff.rfl
    | d x =>
      simp only [slD, wO_some]
      rw [wS_prs]
      constructor <;> refine fun h => wE_mono h (fun y s h => ?_) (fun _ _ h => h)
      · cases q : p (.d x) y with
        | none => rw [q] at h; exact h.elim
        | some v =>
          simp only [q, setF] at h
          rw [wO_some]
          cases q2 : frz v with
          | none => rw [q2] at h; exact h.elim
          | some z => rw [q2] at h; exact h
      · cases q : p (.d x) y with
        | none => rw [q] at h; exact h.elim
        | some v =>
          rw [q, wO_some] at h
          simp only [setF]
          cases q2 : frz v with
          | none => rw [q2] at h; exact h.elim
          | some z => rw [q2] at h; exact h
theorem w_par {is : List Nat} {own : List Bool} {ga : Pe (List PV)} : wS (pPar is own ga e s) K QS XS ↔ wE (ga e s) (fun vs s => wO (thaw own vs) fun us => wO (setsP is us e) fun e => K e s) (fun x s => XS x e s) := by
  unfold pPar
  rw [wS_prs]
  constructor <;> refine fun h => wE_mono h (fun v s h => ?_) (fun _ _ h => h)
  · cases q : thaw own v with
    | none => rw [q] at h; exact h.elim
    | some x =>
      simp only [q] at h
      rw [wO_some]
      cases q2 : setsP is x e with
      | none => rw [q2] at h; exact h.elim
      | some e1 => rw [q2] at h; exact h
  · cases q : thaw own v with
    | none => rw [q] at h; exact h.elim
    | some x =>
      rw [q, wO_some] at h
      simp only []
      cases q2 : setsP is x e with
      | none => rw [q2] at h; exact h.elim
      | some e1 => rw [q2] at h; exact h
def oneV : List PV → Option PV
  | [v] => some v
  | _ => none
theorem w_app {j : Nat} {ga : Pe (List PV)} : wS (pApp j ga e s) K QS XS ↔ wO (slL e[j]?) fun xs => wE (ga e s) (fun vs s => wO (oneV vs) fun v => wO (frz v) fun y => xs.length < LIM ∧ K (e.set j (.own (.l (xs ++ [y])))) s) (fun x s => XS x e s) := by
  unfold pApp
  cases e[j]? with
  | none => exact Iff.rfl
  | some sl =>
    cases sl with
    | no => exact Iff.rfl
    | d x => exact Iff.rfl
    | bag => exact Iff.rfl
    | own c =>
      cases c with
      | k _ => exact Iff.rfl
      | l xs =>
        simp only [slL, wO_some]
        rw [wS_prs]
        constructor <;> refine fun h => wE_mono h (fun vs s h => ?_) (fun _ _ h => h)
        · cases vs with
          | nil => exact h.elim
          | cons v r =>
            cases r with
            | cons _ _ => exact h.elim
            | nil =>
              simp only [oneV, wO_some] at h ⊢
              cases q : frz v with
              | none => rw [q] at h; exact h.elim
              | some y =>
                rw [q] at h
                simp only [wO_some] at h ⊢
                by_cases hl : xs.length < LIM
                · rw [if_pos hl] at h; exact ⟨hl, h⟩
                · rw [if_neg hl] at h; exact h.elim
        · cases vs with
          | nil => exact h.elim
          | cons v r =>
            cases r with
            | cons _ _ => exact h.elim
            | nil =>
              simp only [oneV, wO_some] at h ⊢
              cases q : frz v with
              | none => rw [q] at h; exact h.elim
              | some y =>
                rw [q] at h
                simp only [wO_some] at h ⊢
                rw [if_pos h.1]; exact h.2
theorem w_ext {j : Nat} {ga : Pe (List PV)} : wS (pExt j ga e s) K QS XS ↔ wO (slL e[j]?) fun xs => wE (ga e s) (fun vs s => wO (oneV vs) fun v => wO (lstP v) fun ys => xs.length + ys.length ≤ LIM ∧ K (e.set j (.own (.l (xs ++ ys)))) s) (fun x s => XS x e s) := by
  unfold pExt
  cases e[j]? with
  | none => exact Iff.rfl
  | some sl =>
    cases sl with
    | no => exact Iff.rfl
    | d x => exact Iff.rfl
    | bag => exact Iff.rfl
    | own c =>
      cases c with
      | k _ => exact Iff.rfl
      | l xs =>
        simp only [slL, wO_some]
        rw [wS_prs]
        constructor <;> refine fun h => wE_mono h (fun vs s h => ?_) (fun _ _ h => h)
        · cases vs with
          | nil => exact h.elim
          | cons v r =>
            cases r with
            | cons _ _ => exact h.elim
            | nil =>
              simp only [oneV, wO_some] at h ⊢
              cases q : lstP v with
              | none => rw [q] at h; exact h.elim
              | some y =>
                rw [q] at h
                simp only [wO_some] at h ⊢
                by_cases hl : xs.length + y.length ≤ LIM
                · rw [if_pos hl] at h; exact ⟨hl, h⟩
                · rw [if_neg hl] at h; exact h.elim
        · cases vs with
          | nil => exact h.elim
          | cons v r =>
            cases r with
            | cons _ _ => exact h.elim
            | nil =>
              simp only [oneV, wO_some] at h ⊢
              cases q : lstP v with
              | none => rw [q] at h; exact h.elim
              | some y =>
                rw [q] at h
                simp only [wO_some] at h ⊢
                rw [if_pos h.1]; exact h.2
theorem w_subS {j : Nat} : wS (pSubS j ga gb e s) K QS XS ↔ wO (slL e[j]?) fun xs => wE (gb e s) (fun v s => wE (ga e s) (fun i s => wO (intV i) fun k => wO (frz v) fun y => wO (ixN xs.length k) fun n => K (e.set j (.own (.l (xs.set n y)))) s) (fun x s => XS x e s)) (fun x s => XS x e s) := by
  unfold pSubS
  cases e[j]? with
  | none => exact Iff.rfl
  | some sl =>
    cases sl with
    | no => exact Iff.rfl
    | d x => exact Iff.rfl
    | bag => exact Iff.rfl
    | own c =>
      cases c with
      | k _ => exact Iff.rfl
      | l xs =>
        simp only [slL, wO_some, wS_prs]
        constructor <;> refine fun h => wE_mono h (fun v s h => wE_mono h (fun i s h => ?_) (fun _ _ h => h)) (fun _ _ h => h)
        · cases i with
          | d x =>
            cases x with
            | int k =>
              simp only [intV, wO_some]
              cases q : frz v with
              | none => rw [q] at h; exact h.elim
              | some y =>
                simp only [q] at h
                rw [wO_some]
                cases q2 : ixN xs.length k with
                | none => rw [q2] at h; exact h.elim
                | some n => rw [q2] at h; exact h
            | _ => exact h.elim
          | _ => exact h.elim
        · cases i with
          | d x =>
            cases x with
            | int k =>
              simp only [intV, wO_some] at h
              cases q : frz v with
              | none => rw [q] at h; exact h.elim
              | some y =>
                rw [q, wO_some] at h
                simp only []
                cases q2 : ixN xs.length k with
                | none => rw [q2] at h; exact h.elim
                | some n => rw [q2] at h; exact h
            | _ => exact h.elim
          | _ => exact h.elim
theorem w_raise {x : Str} {n : Nat} {fs : List (Str × Nat)} {ga : Pe (List PV)} : wS (pRaise x n fs ga e s) K QS XS ↔ wE (ga e s) (fun vs s => wO (frzs vs) fun ds => ds.length = n ∧ XS (pexOf x fs ds) e s) (fun x s => XS x e s) := by
  unfold pRaise
  rw [wS_prs]
  constructor <;> refine fun h => wE_mono h (fun v s h => ?_) (fun _ _ h => h)
  · cases q : frzs v with
    | none => rw [q] at h; exact h.elim
    | some us =>
      rw [q] at h
      simp only [] at h
      by_cases hn : us.length = n
      · rw [if_pos hn] at h; exact ⟨hn, h⟩
      · rw [if_neg hn] at h; exact h.elim
  · cases q : frzs v with
    | none => rw [q] at h; exact h.elim
    | some us =>
      rw [q] at h
      simp only []
      rw [if_pos h.1]; exact h.2
theorem w_lam {T : PR PV → PR PV} : wE (pLam T ga e s) Q X ↔ wE (T (ga e s)) Q X := Iff.rfl
theorem w_run {n : Nat} {b : Ps} {vs : List PV} (h : wS (b (startP n vs) s) (fun _ s => Q (.d .none) s) (fun f _ s => match f with | .rt v => Q v s | _ => False) (fun x _ s => X x s)) : wE (runP n b vs s) Q X := by
  unfold runP
  cases q : b (startP n vs) s with
  | go f e s1 => rw [q] at h; cases f <;> exact h
  | exc x e s1 => rw [q] at h; exact h
  | stuck => rw [q] at h; exact h
/-- an answer as an equation -/
theorem run_eq {n : Nat} {b : Ps} {vs : List PV} {v : PV} {s' : Bg} (h : wS (b (startP n vs) s) (fun _ s1 => PV.d .none = v ∧ s1 = s') (fun f _ s1 => f = .rt v ∧ s1 = s') (fun _ _ _ => False)) : runP n b vs s = .ok v s' := by
  unfold runP
  cases q : b (startP n vs) s with
  | go f e s1 =>
    rw [q] at h
    cases f with
    | nx => obtain ⟨rfl, rfl⟩ := h; rfl
    | rt w => obtain ⟨h1, rfl⟩ := h; cases h1; rfl
    | bk => obtain ⟨h1, _⟩ := h; cases h1
    | ct => obtain ⟨h1, _⟩ := h; cases h1
  | exc x e s1 => rw [q] at h; exact h.elim
  | stuck => rw [q] at h; exact h.elim
theorem run_exc {n : Nat} {b : Ps} {vs : List PV} {x : PEx} {s' : Bg} (h : wS (b (startP n vs) s) (fun _ _ => False) (fun _ _ _ => False) (fun y _ s1 => y = x ∧ s1 = s')) : runP n b vs s = .exc x s' := by
  unfold runP
  cases q : b (startP n vs) s with
  | go f e s1 => rw [q] at h; cases f <;> exact h.elim
  | exc y e s1 => rw [q] at h; obtain ⟨rfl, rfl⟩ := h; rfl
  | stuck => rw [q] at h; exact h.elim
theorem wE_eq {r : PR PV} {v : PV} {s' : Bg} (h : r = .ok v s') : wE r Q X ↔ Q v s' := by rw [h]; exact Iff.rfl
/-! loops -/
def brkP (K : PEnv → Bg → Prop) (C : PEnv → Bg → Prop) (QS : PFl → PEnv → Bg → Prop) : PFl → PEnv → Bg → Prop
  | .ct => C
  | .bk => K
  | f => QS f
theorem w_for {g : Pe PIt} {t : Tg} : wS (pFor g t f e s) K QS XS ↔ wE (g e s) (fun p s => p.free = true ∧ wS (pForL t f p.xs e s) K QS XS) (fun x s => XS x e s) := by
  unfold pFor
  rw [wS_prs]
  constructor <;> refine fun h => wE_mono h (fun p s h => ?_) (fun _ _ h => h)
  · by_cases hp : p.free = true
    · rw [if_pos hp] at h; exact ⟨hp, h⟩
    · rw [if_neg hp] at h; exact h.elim
  · rw [if_pos h.1]; exact h.2
theorem w_forN {t : Tg} : wS (pForL t f [] e s) K QS XS ↔ K e s := Iff.rfl
theorem w_forC {t : Tg} {x : PyData} {xs : List PyData} : wS (pForL t f (x :: xs) e s) K QS XS ↔ wO (putP t x e) fun e1 => wS (f e1 s) (fun e2 s2 => wS (pForL t f xs e2 s2) K QS XS) (brkP K (fun e2 s2 => wS (pForL t f xs e2 s2) K QS XS) QS) XS := by
  conv => lhs; unfold pForL
  cases putP t x e with
  | none => exact Iff.rfl
  | some e1 =>
    simp only [wO_some]
    cases f e1 s with
    | go fl e2 s2 => cases fl <;> exact Iff.rfl
    | exc _ _ _ => exact Iff.rfl
    | stuck => exact Iff.rfl
/-- over a list, by what holds before the k-th item -/
theorem w_forI {t : Tg} (I : Nat → PEnv → Bg → Prop) (xs : List PyData) (hs : ∀ (k : Nat) e s x, xs[k]? = some x → I k e s → wO (putP t x e) fun e1 => wS (f e1 s) (I (k + 1)) (brkP K (I (k + 1)) QS) XS) (hd : ∀ e s, I xs.length e s → K e s) :
    ∀ (ys : List PyData) (k : Nat) (e : PEnv) (s : Bg), xs.drop k = ys → k + ys.length = xs.length → I k e s → wS (pForL t f ys e s) K QS XS
  | [], k, e, s, _, hl, h => by
    have : k = xs.length := by simpa using hl
    subst this
    exact hd e s h
  | x :: ys, k, e, s, ed, hl, h => by
    rw [w_forC]
    have hx : xs[k]? = some x := by
      have : (xs.drop k)[0]? = some x := by rw [ed]; rfl
      rwa [List.getElem?_drop, Nat.add_zero] at this
    have e2 : xs.drop (k + 1) = ys := by rw [← List.drop_drop, ed]; rfl
    have ih := fun e s h => w_forI I xs hs hd ys (k + 1) e s e2 (by simp at hl; omega) h
    have h1 := hs k e s x hx h
    cases q : putP t x e with
    | none => rw [q] at h1; exact h1.elim
    | some e1 =>
      rw [q] at h1
      refine wS_mono h1 ih (fun fl e s h => ?_) (fun _ _ _ h => h)
      cases fl with
      | ct => exact ih e s h
      | _ => exact h
theorem w_for0 {t : Tg} {xs : List PyData} (I : Nat → PEnv → Bg → Prop) (h0 : I 0 e s) (hs : ∀ (k : Nat) e s x, xs[k]? = some x → I k e s → wO (putP t x e) fun e1 => wS (f e1 s) (I (k + 1)) (brkP K (I (k + 1)) QS) XS) (hd : ∀ e s, I xs.length e s → K e s) :
    wS (pForL t f xs e s) K QS XS := w_forI I xs hs hd xs 0 e s (by simp) (by simp) h0
theorem w_while (I : Nat → PEnv → Bg → Prop) (hs : ∀ k e s, I k e s → wE (c e s) (fun b s1 => if b = true then wS (f e s1) (fun e2 s2 => ∃ j, j < k ∧ I j e2 s2) (brkP K (fun e2 s2 => ∃ j, j < k ∧ I j e2 s2) QS) XS else K e s1) (fun x s => XS x e s)) :
    ∀ (k : Nat) (e : PEnv) (s : Bg), I k e s → wS (pWh c f e s) K QS XS := by
  have unf : ∀ e s, wE (c e s) (fun b s1 => if b = true then wS (f e s1) (fun e2 s2 => wS (pWh c f e2 s2) K QS XS) (brkP K (fun e2 s2 => wS (pWh c f e2 s2) K QS XS) QS) XS else K e s1) (fun x s => XS x e s) → wS (pWh c f e s) K QS XS := by
    intro e s h
    have ofN : ∀ {e2 s2 r}, pWh c f e2 s2 = r → r ≠ .stuck → ∃ n, whPN c f n e2 s2 = r := fun {e2 s2 r} hr hn => by
      unfold pWh at hr
      split at hr
      · rename_i hex
        exact ⟨_, hr⟩
      · exact absurd hr.symm hn
    have step : ∀ (n : Nat) {r : PS}, whPN c f (n + 1) e s = r → r ≠ .stuck → wS r K QS XS → wS (pWh c f e s) K QS XS := fun n r hr hn hw => by rw [pWh_of hr hn]; exact hw
    have go : ∀ {b s1}, c e s = .ok b s1 → wS (pWh c f e s) K QS XS := fun {b s1} ec => by
      rw [ec] at h
      cases b with
      | false => exact step 0 (show prs (c e s) e _ = PS.go .nx e s1 by rw [ec]; rfl) (by simp) h
      | true =>
        have h' : wS (f e s1) (fun e2 s2 => wS (pWh c f e2 s2) K QS XS) (brkP K (fun e2 s2 => wS (pWh c f e2 s2) K QS XS) QS) XS := h
        have loop : ∀ {e2 s2}, (f e s1 = .go .nx e2 s2 ∨ f e s1 = .go .ct e2 s2) → wS (pWh c f e2 s2) K QS XS → wS (pWh c f e s) K QS XS := fun {e2 s2} ef hw => by
          have hn : pWh c f e2 s2 ≠ .stuck := fun z => by rw [z] at hw; exact hw.elim
          obtain ⟨n, en⟩ := ofN rfl hn
          refine step n (r := pWh c f e2 s2) ?_ hn hw
          show prs (c e s) e _ = _
          rw [ec]
          rcases ef with ef | ef <;> (simp only [prs_ok, if_true, ef]; exact en)
        cases ef : f e s1 with
        | stuck => rw [ef] at h'; exact h'.elim
        | exc x e2 s2 =>
          rw [ef] at h'
          exact step 0 (r := .exc x e2 s2) (by show prs (c e s) e _ = _; rw [ec]; simp only [prs_ok, if_true, ef]) (by simp) h'
        | go fl e2 s2 =>
          rw [ef] at h'
          cases fl with
          | nx => exact loop (.inl ef) h'
          | ct => exact loop (.inr ef) h'
          | bk => exact step 0 (r := .go .nx e2 s2) (by show prs (c e s) e _ = _; rw [ec]; simp only [prs_ok, if_true, ef]) (by simp) h'
          | rt v => exact step 0 (r := .go (.rt v) e2 s2) (by show prs (c e s) e _ = _; rw [ec]; simp only [prs_ok, if_true, ef]) (by simp) h'
    cases ec : c e s with
    | stuck => rw [ec] at h; exact h.elim
    | ok b s1 => exact go ec
    | exc x s1 =>
      rw [ec] at h
      exact step 0 (r := .exc x e s1) (by show prs (c e s) e _ = _; rw [ec]; rfl) (by simp) h
  intro k
  induction k using Nat.strongRecOn with
  | _ k ih =>
    intro e s h0
    refine unf e s (wE_mono (hs k e s h0) (fun b s1 h => ?_) (fun _ _ h => h))
    cases b with
    | false => exact h
    | true =>
      rw [if_pos rfl] at h ⊢
      refine wS_mono h (fun e2 s2 ⟨j, hj, h⟩ => ih j hj e2 s2 h) (fun fl e2 s2 h => ?_) (fun _ _ _ h => h)
      cases fl with
      | ct => obtain ⟨j, hj, h⟩ := h; exact ih j hj e2 s2 h
      | _ => exact h
/-- a comprehension whose parts answer and leave the bag -/
theorem w_lcL {t : Tg} {e0 : PEnv} {R : List PyData → Bg → Prop} {X : PEx → Bg → Prop} (p : PyData → Bool) (v : PyData → PyData) : ∀ (xs acc : List PyData) (s : Bg), acc.length + xs.length ≤ LIM →
    (∀ x ∈ xs, wO (putP t x e0) fun e1 => wE (c e1 s) (fun b s1 => b = p x ∧ s1 = s ∧ (p x = true → wE (ga e1 s) (fun w s2 => frz w = some (v x) ∧ s2 = s) (fun _ _ => False))) (fun _ _ => False)) →
    R (acc ++ (xs.filter p).map v) s → wE (plcL t c ga e0 xs acc s) R X
  | [], acc, s, _, _, h => by
    simp only [List.filter_nil, List.map_nil, List.append_nil] at h
    exact h
  | x :: xs, acc, s, hl, hx, h => by
    unfold plcL
    have h1 := hx x List.mem_cons_self
    simp only [List.length_cons] at hl
    cases q : putP t x e0 with
    | none => rw [q] at h1; exact h1.elim
    | some e1 =>
      rw [q] at h1
      simp only [wO_some, wE_bind] at h1 ⊢
      cases q2 : c e1 s with
      | stuck => rw [q2] at h1; exact h1.elim
      | exc _ _ => rw [q2] at h1; exact h1.elim
      | ok b s1 =>
        rw [q2] at h1
        obtain ⟨rfl, rfl, h2⟩ := h1
        rw [wE_ok]
        cases ep : p x with
        | false =>
          rw [if_neg (by simp)]
          refine w_lcL p v xs acc s1 (by omega) (fun y hy => hx y (List.mem_cons_of_mem _ hy)) ?_
          rw [List.filter_cons_of_neg (by simp [ep])] at h
          exact h
        | true =>
          rw [if_pos rfl, wE_bind]
          have h3 := h2 ep
          cases q3 : ga e1 s1 with
          | stuck => rw [q3] at h3; exact h3.elim
          | exc _ _ => rw [q3] at h3; exact h3.elim
          | ok w s2 =>
            rw [q3] at h3
            obtain ⟨e4, rfl⟩ := h3
            rw [wE_ok, e4]
            simp only []
            rw [if_pos (by omega)]
            refine w_lcL p v xs (acc ++ [v x]) s2 (by simp; omega) (fun y hy => hx y (List.mem_cons_of_mem _ hy)) ?_
            rw [List.filter_cons_of_pos (by simp [ep])] at h
            simpa using h
/-- a comprehension, by what holds before the k-th item -/
theorem w_lcI {t : Tg} {e0 : PEnv} {R : List PyData → Bg → Prop} {X : PEx → Bg → Prop} (I : Nat → List PyData → Bg → Prop) (xs : List PyData)
    (hs : ∀ (k : Nat) acc s x, xs[k]? = some x → I k acc s → wO (putP t x e0) fun e1 => wE (c e1 s) (fun b s1 => if b = true then wE (ga e1 s1) (fun w s2 => wO (frz w) fun y => acc.length < LIM ∧ I (k + 1) (acc ++ [y]) s2) X else I (k + 1) acc s1) X)
    (hd : ∀ acc s, I xs.length acc s → R acc s) : ∀ (ys : List PyData) (k : Nat) (acc : List PyData) (s : Bg), xs.drop k = ys → k + ys.length = xs.length → I k acc s → wE (plcL t c ga e0 ys acc s) R X
  | [], k, acc, s, _, hl, h => by
    have : k = xs.length := by simpa using hl
    subst this
    exact hd acc s h
  | x :: ys, k, acc, s, ed, hl, h => by
    unfold plcL
    have hx : xs[k]? = some x := by
      have : (xs.drop k)[0]? = some x := by rw [ed]; rfl
      rwa [List.getElem?_drop, Nat.add_zero] at this
    have e2 : xs.drop (k + 1) = ys := by rw [← List.drop_drop, ed]; rfl
    have ih := fun acc s h => w_lcI I xs hs hd ys (k + 1) acc s e2 (by simp at hl; omega) h
    have h1 := hs k acc s x hx h
    cases q : putP t x e0 with
    | none => rw [q] at h1; exact h1.elim
    | some e1 =>
      rw [q] at h1
      simp only [wO_some, wE_bind] at h1 ⊢
      refine wE_mono h1 (fun b s1 h => ?_) (fun _ _ h => h)
      cases b with
      | false => exact ih acc s1 h
      | true =>
        rw [if_pos rfl] at h ⊢
        rw [wE_bind]
        refine wE_mono h (fun w s2 h => ?_) (fun _ _ h => h)
        cases q2 : frz w with
        | none => rw [q2] at h; exact h.elim
        | some y =>
          rw [q2] at h
          simp only []
          rw [if_pos h.1]
          exact ih _ s2 h.2
theorem w_lc0 {t : Tg} {e0 : PEnv} {R : List PyData → Bg → Prop} {X : PEx → Bg → Prop} {xs : List PyData} (I : Nat → List PyData → Bg → Prop) (h0 : I 0 [] s)
    (hs : ∀ (k : Nat) acc s x, xs[k]? = some x → I k acc s → wO (putP t x e0) fun e1 => wE (c e1 s) (fun b s1 => if b = true then wE (ga e1 s1) (fun w s2 => wO (frz w) fun y => acc.length < LIM ∧ I (k + 1) (acc ++ [y]) s2) X else I (k + 1) acc s1) X)
    (hd : ∀ acc s, I xs.length acc s → R acc s) : wE (plcL t c ga e0 xs [] s) R X := w_lcI I xs hs hd xs 0 [] s (by simp) (by simp) h0
end
end PD
set_option Elab.async false
set_option linter.all false
set_option maxRecDepth 100000
set_option maxHeartbeats 2000000
namespace PD
open PySem PySem.Spec PyProof.Rows L2 DL
/-! ### small steps -/
section
variable {x : PyData} {c : Co} {i j : Nat} {xs ys : List PyData} {v : PV} {vs : List PV} {b : Bool} {bs : List Bool} {e : PEnv} {is : List Nat}
theorem pd_slV1 : slV i (some (.d x)) = some (.d x) := rfl
theorem pd_slV2 : slV i (some (.own c)) = some (.bo i c) := rfl
theorem pd_slV3 : slV i (some .bag) = some .bag := rfl
theorem pd_slD : slD (some (.d x)) = some x := rfl
theorem pd_slL : slL (some (.own (.l xs))) = some xs := rfl
theorem pd_frz1 : frz (.d x) = some x := rfl
theorem pd_frz2 : frz (.fr c) = some c.toD := rfl
theorem pd_frzA0 : frzA [] = some [] := rfl
theorem pd_frzA1 : frzA (.d x :: vs) = (frzA vs).map fun r => .d x :: r := rfl
theorem pd_frzA2 : frzA (.fr c :: vs) = (frzA vs).map fun r => .d c.toD :: r := rfl
theorem pd_frzA3 : frzA (.bag :: vs) = (frzA vs).map fun r => .bag :: r := rfl
theorem pd_frzs0 : frzs [] = some [] := rfl
theorem pd_frzs1 : frzs (.d x :: vs) = (frzs vs).map fun r => x :: r := by
  show (match frz (.d x), frzs vs with | some x, some xs => some (x :: xs) | _, _ => none) = _
  cases frzs vs <;> rfl
theorem pd_frzs2 : frzs (.fr c :: vs) = (frzs vs).map fun r => c.toD :: r := by
  show (match frz (.fr c), frzs vs with | some x, some xs => some (x :: xs) | _, _ => none) = _
  cases frzs vs <;> rfl
theorem frzs_map : ∀ xs : List PyData, frzs (xs.map .d) = some xs
  | [] => rfl
  | x :: xs => by rw [List.map_cons, pd_frzs1, frzs_map xs]; rfl
theorem frzs_app : ∀ (xs : List PyData) (vs : List PV), frzs (xs.map .d ++ vs) = (frzs vs).map fun r => xs ++ r
  | [], vs => by
    simp only [List.map_nil, List.nil_append]
    cases frzs vs <;> rfl
  | x :: xs, vs => by
    rw [List.map_cons, List.cons_append, pd_frzs1, frzs_app xs vs]
    cases frzs vs <;> rfl
theorem pd_retV1 : retV (.d x) = some (.d x) := rfl
theorem pd_retV2 : retV (.fr c) = some (.fr c) := rfl
theorem pd_retV3 : retV (.bo i c) = some (.fr c) := rfl
theorem pd_oneV : oneV [v] = some v := rfl
theorem pd_intV {k : Int} : intV (.d (.int k)) = some k := rfl
theorem pd_strV {k : Str} : strV (.d (.str k)) = some k := rfl
theorem pd_boolP : boolP (.d (.bool b)) = some b := rfl
theorem pd_truN : truP (.d .none) = some false := rfl
theorem pd_truB : truP (.d (.bool b)) = some b := rfl
theorem pd_truI {k : Int} : truP (.d (.int k)) = some (k != 0) := rfl
theorem pd_lst1 : lstP (.d (.list xs)) = some xs := rfl
theorem pd_lst2 : lstP (.fr (.l xs)) = some xs := rfl
theorem pd_lst3 : lstP (.bo i (.l xs)) = some xs := rfl
theorem pd_tup : tupP (.d (.tuple xs)) = some xs := rfl
theorem pd_seq1 : seqP (.d (.list xs)) = some xs := rfl
theorem pd_seq2 : seqP (.d (.tuple xs)) = some xs := rfl
theorem pd_seq3 : seqP (.fr (.l xs)) = some xs := rfl
theorem pd_seq4 : seqP (.bo i (.l xs)) = some xs := rfl
theorem pd_it1 : itP (.d (.tuple xs)) = some ⟨xs, true⟩ := rfl
theorem pd_it2 : itP (.d (.list xs)) = some ⟨xs, true⟩ := rfl
theorem pd_it3 : itP (.fr (.l xs)) = some ⟨xs, true⟩ := rfl
theorem pd_it4 : itP (.bo i (.l xs)) = some ⟨xs, false⟩ := rfl
theorem pd_thaw0 : thaw [] [] = some [] := rfl
theorem pd_thaw1 : thaw (b :: bs) (.d x :: vs) = (thaw bs vs).map fun r => .d x :: r := rfl
theorem pd_thaw2 : thaw (b :: bs) (.fr c :: vs) = (thaw bs vs).map fun r => (if b = true then .fr c else .d c.toD) :: r := rfl
theorem pd_sets0 : setsP [] [] e = some e := rfl
theorem pd_sets1 : setsP (i :: is) (.d x :: vs) e = setsP is vs (e.set i (.d x)) := rfl
theorem pd_sets2 : setsP (i :: is) (.fr c :: vs) e = setsP is vs (e.set i (.own c)) := rfl
theorem pd_setV1 : setV i (.d x) e = some (e.set i (.d x)) := rfl
theorem pd_setV2 : setV i (.fr c) e = some (e.set i (.own c)) := rfl
theorem pd_put1 : putP (.name i) x e = some (e.set i (.d x)) := rfl
theorem pd_put2 {ts : List Tg} : putP (.tup ts) (.tuple xs) e = putPs ts xs e := rfl
theorem pd_puts0 : putPs [] [] e = some e := rfl
theorem pd_puts1 {t : Tg} {ts : List Tg} : putPs (t :: ts) (x :: xs) e = (putP t x e).bind fun e => putPs ts xs e := rfl
theorem wO_ran1 {k : Int} {Q : PIt → Prop} : wO (ran1P [.d (.int k)]) Q ↔ range62 k = true ∧ Q ⟨intsP' 0 k.toNat, true⟩ := by
  show wO (if range62 k = true then some (⟨intsP' 0 k.toNat, true⟩ : PIt) else none) Q ↔ _
  by_cases h : range62 k = true
  · rw [if_pos h]; exact ⟨fun q => ⟨h, q⟩, fun q => q.2⟩
  · rw [if_neg h]; exact ⟨fun q => q.elim, fun q => h q.1⟩
theorem wO_ran2 {k l : Int} {Q : PIt → Prop} : wO (ran2P [.d (.int k), .d (.int l)]) Q ↔ (range62 k && range62 l) = true ∧ Q ⟨intsP' k (l - k).toNat, true⟩ := by
  show wO (if (range62 k && range62 l) = true then some (⟨intsP' k (l - k).toNat, true⟩ : PIt) else none) Q ↔ _
  by_cases h : (range62 k && range62 l) = true
  · rw [if_pos h]; exact ⟨fun q => ⟨h, q⟩, fun q => q.2⟩
  · rw [if_neg h]; exact ⟨fun q => q.elim, fun q => h q.1⟩
end
/-! ### what operators answer -/
section
variable {Q : PV → Prop} {a b : Int}
theorem o_add : wO (pAdd (.d (.int a)) (.d (.int b))) Q ↔ Q (.d (.int (a + b))) := Iff.rfl
theorem o_iadd : wO (pIadd (.d (.int a)) (.d (.int b))) Q ↔ Q (.d (.int (a + b))) := Iff.rfl
theorem o_sub : wO (pSub (.d (.int a)) (.d (.int b))) Q ↔ Q (.d (.int (a - b))) := Iff.rfl
theorem o_and : wO (pAnd (.d (.int a)) (.d (.int b))) Q ↔ Q (.d (.int (Builtin.bitAnd a b))) := Iff.rfl
theorem o_lt : wO (pLt (.d (.int a)) (.d (.int b))) Q ↔ Q (.d (.bool (decide (a < b)))) := Iff.rfl
theorem o_le : wO (pLe (.d (.int a)) (.d (.int b))) Q ↔ Q (.d (.bool (decide (a ≤ b)))) := Iff.rfl
theorem o_gt : wO (pGt (.d (.int a)) (.d (.int b))) Q ↔ Q (.d (.bool (decide (b < a)))) := Iff.rfl
theorem o_ge : wO (pGe (.d (.int a)) (.d (.int b))) Q ↔ Q (.d (.bool (decide (b ≤ a)))) := Iff.rfl
theorem o_neg : wO (pNeg (.d (.int a))) Q ↔ Q (.d (.int (-a))) := Iff.rfl
theorem wO_ite {α : Type} {p : Prop} [Decidable p] {x : α} {Q : α → Prop} : wO (if p then some x else none) Q ↔ p ∧ Q x := by
  by_cases h : p
  · rw [if_pos h]; exact ⟨fun q => ⟨h, q⟩, fun q => q.2⟩
  · rw [if_neg h]; exact ⟨fun q => q.elim, fun q => h q.1⟩
theorem o_pInt {C : Int → Int → Bool} {g : Int → Int → PyData} : wO (pInt C g (.d (.int a)) (.d (.int b))) Q ↔ C a b = true ∧ Q (.d (g a b)) := wO_ite
theorem o_mod : wO (pMod (.d (.int a)) (.d (.int b))) Q ↔ 0 < b ∧ Q (.d (.int (a % b))) := by unfold pMod; rw [o_pInt, decide_eq_true_eq]
theorem o_fdiv : wO (pFdiv (.d (.int a)) (.d (.int b))) Q ↔ (0 < b ∧ b < 1073741824) ∧ Q (.d (.int (a / b))) := by unfold pFdiv; rw [o_pInt, decide_eq_true_eq]
theorem o_shr : wO (pShr (.d (.int a)) (.d (.int b))) Q ↔ 0 ≤ b ∧ Q (.d (.int (a / 2 ^ b.toNat))) := by unfold pShr; rw [o_pInt, decide_eq_true_eq]
theorem o_pow : wO (pPow (.d (.int a)) (.d (.int b))) Q ↔ (0 ≤ b ∧ b ≤ 1000000 ∧ a.natAbs < 2 ^ 64) ∧ Q (.d (.int (a ^ b.toNat))) := by unfold pPow; rw [o_pInt, decide_eq_true_eq]
theorem o_mul : wO (pMul (.d (.int a)) (.d (.int b))) Q ↔ (small64 a || small64 b) = true ∧ Q (.d (.int (a * b))) := wO_ite
theorem o_int : wO (pInt1 [.d (.int a)]) Q ↔ Q (.d (.int a)) := Iff.rfl
theorem o_abs : wO (pAbs [.d (.int a)]) Q ↔ Q (.d (.int (if a < 0 then -a else a))) := Iff.rfl
theorem o_min2 : wO (pMin2 [.d (.int a), .d (.int b)]) Q ↔ Q (.d (.int (if b < a then b else a))) := Iff.rfl
theorem o_eqi : wO (pEq (.d (.int a)) (.d (.int b))) Q ↔ Q (.d (.bool (decide (a = b)))) := by
  show Q (.d (.bool (a == b))) ↔ _
  rfl
theorem o_nei : wO (pNe (.d (.int a)) (.d (.int b))) Q ↔ Q (.d (.bool (!decide (a = b)))) := by
  show Q (.d (.bool (!(a == b)))) ↔ _
  rfl
theorem o_eqb {a b : Bool} : wO (pEq (.d (.bool a)) (.d (.bool b))) Q ↔ Q (.d (.bool (a == b))) := Iff.rfl
theorem o_neb {a b : Bool} : wO (pNe (.d (.bool a)) (.d (.bool b))) Q ↔ Q (.d (.bool (!(a == b)))) := Iff.rfl
theorem o_isi {Ts : List String} {x : PyData} : wO (pIsi Ts (.d x)) Q ↔ Q (.d (.bool (Ts.any (isT (tyD x))))) := Iff.rfl
theorem o_lenS {x : Str} : wO (pLen [.d (.str x)]) Q ↔ x.length ≤ LIM ∧ Q (.d (.int x.length)) := wO_ite
theorem o_len {v : PV} {xs : List PyData} (h : seqP v = some xs) : wO (pLen [v]) Q ↔ Q (.d (.int xs.length)) := by
  have e : pLen [v] = some (.d (.int xs.length)) := by
    cases v with
    | d x => cases x <;> first | (cases h; done) | (cases h; rfl)
    | fr c => cases c <;> first | (cases h; done) | (cases h; rfl)
    | bo i c => cases c <;> first | (cases h; done) | (cases h; rfl)
    | bag => cases h
  rw [e]; exact Iff.rfl
theorem o_lenT {xs : List PyData} : wO (pLen [.d (.tuple xs)]) Q ↔ Q (.d (.int xs.length)) := Iff.rfl
theorem o_lenL {xs : List PyData} : wO (pLen [.d (.list xs)]) Q ↔ Q (.d (.int xs.length)) := Iff.rfl
theorem o_lenF {xs : List PyData} : wO (pLen [.fr (.l xs)]) Q ↔ Q (.d (.int xs.length)) := Iff.rfl
theorem o_lenB {i : Nat} {xs : List PyData} : wO (pLen [.bo i (.l xs)]) Q ↔ Q (.d (.int xs.length)) := Iff.rfl
theorem o_tup {vs : List PV} : wO (pTup vs) Q ↔ wO (frzs vs) fun xs => xs.length ≤ LIM ∧ Q (.d (.tuple xs)) := by
  unfold pTup
  cases frzs vs with
  | none => exact Iff.rfl
  | some xs => exact wO_ite
theorem o_lst {vs : List PV} : wO (pLst vs) Q ↔ wO (frzs vs) fun xs => xs.length ≤ LIM ∧ Q (.fr (.l xs)) := by
  unfold pLst
  cases frzs vs with
  | none => exact Iff.rfl
  | some xs => exact wO_ite
theorem o_list {v : PV} : wO (pList [v]) Q ↔ wO (seqP v) fun xs => Q (.fr (.l xs)) := by
  show wO ((seqP v).map fun xs => PV.fr (.l xs)) Q ↔ _
  cases seqP v <;> exact Iff.rfl
theorem o_tuple {v : PV} : wO (pTuple [v]) Q ↔ wO (seqP v) fun xs => Q (.d (.tuple xs)) := by
  show wO ((seqP v).map fun xs => PV.d (.tuple xs)) Q ↔ _
  cases seqP v <;> exact Iff.rfl
theorem o_cat {v w : PV} {xs ys : List PyData} (h : lstP v = some xs) (h2 : lstP w = some ys) : wO (pAdd v w) Q ↔ xs.length + ys.length ≤ LIM ∧ Q (.fr (.l (xs ++ ys))) := by
  have e : pAdd v w = if xs.length + ys.length ≤ LIM then some (.fr (.l (xs ++ ys))) else none := by
    unfold pAdd
    split
    · cases h
    · cases h
    · rw [h, h2]
  rw [e]; exact wO_ite
theorem o_catT {xs ys : List PyData} : wO (pAdd (.d (.tuple xs)) (.d (.tuple ys))) Q ↔ xs.length + ys.length ≤ LIM ∧ Q (.d (.tuple (xs ++ ys))) := wO_ite
theorem o_catS {xs ys : Str} : wO (pAdd (.d (.str xs)) (.d (.str ys))) Q ↔ xs.length + ys.length ≤ LIM ∧ Q (.d (.str (xs ++ ys))) := wO_ite
theorem o_ix {v : PV} {xs : List PyData} (h : seqP v = some xs) : wO (pIx v (.d (.int a))) Q ↔ wO (atI xs a) fun x => Q (.d x) := by
  have e : pIx v (.d (.int a)) = (atI xs a).map .d := by
    unfold pIx
    split
    · cases h
    · rename_i i _ hi
      cases hi
      rw [h]
    · rename_i h1 h2
      exact absurd rfl (h1 a)
  rw [e]
  cases atI xs a <;> exact Iff.rfl
theorem o_cutT {xs : List PyData} {lo hi : Option Int} : wO (pCut (.d (.tuple xs)) lo hi) Q ↔ Q (.d (.tuple (cutL xs lo hi))) := Iff.rfl
theorem o_cutL {v : PV} {xs : List PyData} {lo hi : Option Int} (h : lstP v = some xs) : wO (pCut v lo hi) Q ↔ Q (.fr (.l (cutL xs lo hi))) := by
  have e : pCut v lo hi = some (.fr (.l (cutL xs lo hi))) := by
    unfold pCut
    split
    · cases h
    · rw [h]
  rw [e]; exact Iff.rfl
/-- two that are equal, or not -/
theorem o_eqW {v w : PV} {x y : PyData} (h : valP v = some x) (h2 : valP w = some y) (hs : (scalD x y || (SeqAt.shaped x && SeqAt.shaped y)) = true) : wO (pEq v w) Q ↔ Q (.d (.bool (PyData.eqv x y))) := by
  have e : pEqB v w = some (PyData.eqv x y) := by
    unfold pEqB
    rw [h, h2]
    exact if_pos hs
  unfold pEq
  rw [e]; exact Iff.rfl
theorem o_neW {v w : PV} {x y : PyData} (h : valP v = some x) (h2 : valP w = some y) (hs : (scalD x y || (SeqAt.shaped x && SeqAt.shaped y)) = true) : wO (pNe v w) Q ↔ Q (.d (.bool (!PyData.eqv x y))) := by
  have e : pEqB v w = some (PyData.eqv x y) := by
    unfold pEqB
    rw [h, h2]
    exact if_pos hs
  unfold pNe
  rw [e]; exact Iff.rfl
theorem o_rev1 {xs : List PyData} : wO (revP (.d (.list xs))) Q ↔ Q (.fr (.l xs.reverse)) := Iff.rfl
theorem o_rev2 {xs : List PyData} : wO (revP (.fr (.l xs))) Q ↔ Q (.fr (.l xs.reverse)) := Iff.rfl
theorem o_rev3 {i : Nat} {xs : List PyData} : wO (revP (.bo i (.l xs))) Q ↔ Q (.fr (.l xs.reverse)) := Iff.rfl
theorem o_rev4 {xs : List PyData} : wO (revP (.d (.tuple xs))) Q ↔ Q (.d (.tuple xs.reverse)) := Iff.rfl
theorem strsP_map : ∀ ss : List Str, strsP (ss.map .str) = some ss
  | [] => rfl
  | s :: r => by
    show (strsP (r.map .str)).map (s :: ·) = _
    rw [strsP_map r]; rfl
theorem o_join {a : Str} {v : PV} {ss : List Str} (h : seqP v = some (ss.map .str)) : wO (joinP a v) Q ↔ (ss.map (·.length)).sum + ss.length * a.length ≤ 16777216 ∧ Q (.d (.str (Txt.join a ss))) := by
  unfold joinP
  rw [h]
  simp only [strsP_map]
  exact wO_ite
theorem o_int2 {x : Str} {b : Int} : wO (pInt2 [.d (.str x), .d (.int b)]) Q ↔ (b = 2 ∧ bitsB x = true) ∧ Q (.d (.int ((Bx.bitNum x.cps.toList : Nat) : Int))) := wO_ite
abbrev zs (l : List Int) : List PyData := l.map .int
theorem zs_lay : ∀ l : List Int, PyData.canLayAll0 (zs l) = true
  | [] => by simp [PyData.canLayAll0]
  | i :: l => by
    show PyData.canLayAll0 (PyData.int i :: zs l) = true
    rw [PyData.canLayAll0, zs_lay l]
    simp [PyData.canLay0]
theorem zs_depth : ∀ l : List Int, PyData.depthAll (zs l) = 0
  | [] => by simp [PyData.depthAll]
  | i :: l => by
    show PyData.depthAll (PyData.int i :: zs l) = 0
    rw [PyData.depthAll, zs_depth l]
    simp [PyData.depth]
theorem zs_shaped (l : List Int) : SeqAt.shaped (.tuple (zs l)) = true := by
  unfold SeqAt.shaped
  rw [PyData.canLay0, zs_lay, PyData.depth, zs_depth]
  rfl
theorem zs_eqv : ∀ l l' : List Int, PyData.eqvAll (zs l) (zs l') = decide (l = l')
  | [], [] => by simp [PyData.eqvAll]
  | [], _ :: _ => by simp [PyData.eqvAll]
  | _ :: _, [] => by simp [PyData.eqvAll]
  | a :: l, b :: l' => by
    show PyData.eqvAll (PyData.int a :: zs l) (PyData.int b :: zs l') = _
    rw [PyData.eqvAll, zs_eqv l l', PyData.eqv]
    by_cases h1 : a = b
    · by_cases h2 : l = l'
      · subst h1 h2; simp
      · simp [h1, h2]
    · simp [h1]
theorem o_eqZ {l l' : List Int} : wO (pEq (.d (.tuple (zs l))) (.d (.tuple (zs l')))) Q ↔ Q (.d (.bool (decide (l = l')))) := by
  rw [o_eqW (x := .tuple (zs l)) (y := .tuple (zs l')) rfl rfl (by rw [zs_shaped, zs_shaped]; simp), PyData.eqv, zs_eqv]
end
section
variable {e : PEnv} {s : Bg} {Q : PV → Bg → Prop} {X : PEx → Bg → Prop} {XS : PEx → PEnv → Bg → Prop} {K : PEnv → Bg → Prop} {QS : PFl → PEnv → Bg → Prop} {ga : Pe PV}
theorem w_bagIx {j k : Nat} : wE (pBagIx j k e s) Q X ↔ e[j]? = some .bag ∧ wO (s.get k) fun x => Q (.d (.int x)) s := by
  unfold pBagIx
  split
  · rename_i x h1 h2
    rw [h1, h2]
    exact ⟨fun h => ⟨rfl, h⟩, fun h => h.2⟩
  · rename_i hh
    refine ⟨fun h => h.elim, fun ⟨h1, h2⟩ => ?_⟩
    cases q : s.get k with
    | none => rw [q] at h2; exact h2.elim
    | some x => exact (hh x h1 q).elim
end
end PD
set_option Elab.async false
set_option linter.all false
set_option maxRecDepth 100000
set_option maxHeartbeats 4000000
namespace PD
open PySem PySem.Spec PyProof.Rows L2 DL Hn
/-! ### the harness -/
section
variable {e : PEnv} {s : Bg} {Q : PV → Bg → Prop} {X : PEx → Bg → Prop} {XS : PEx → PEnv → Bg → Prop} {K : PEnv → Bg → Prop} {QS : PFl → PEnv → Bg → Prop} {ga : Pe PV}
theorem w_bagSet {j k : Nat} : wS (pBagSet j k ga e s) K QS XS ↔ e[j]? = some .bag ∧ wE (ga e s) (fun v s => wO (intV v) fun x => 0 ≤ x ∧ wO (s.put k x) fun s => K e s) (fun x s => XS x e s) := by
  unfold pBagSet
  split
  · rename_i h1
    rw [h1, wS_prs]
    have key : ∀ (v : PV) (s : Bg), wS (match v with | .d (.int x) => if 0 ≤ x then (match s.put k x with | some s => PS.go .nx e s | none => .stuck) else .stuck | _ => .stuck) K QS XS ↔ wO (intV v) fun x => 0 ≤ x ∧ wO (s.put k x) fun s => K e s := fun v s => by
      cases v with
      | d x =>
        cases x with
        | int x =>
          simp only [intV, wO_some]
          by_cases hx : 0 ≤ x
          · rw [if_pos hx]
            cases s.put k x with
            | none => exact ⟨fun h => h.elim, fun h => h.2.elim⟩
            | some s => exact ⟨fun h => ⟨hx, h⟩, fun h => h.2⟩
          · rw [if_neg hx]; exact ⟨fun h => h.elim, fun h => absurd h.1 hx⟩
        | _ => exact Iff.rfl
      | _ => exact Iff.rfl
    refine ⟨fun h => ⟨rfl, wE_mono h (fun v s h => (key v s).mp h) (fun _ _ h => h)⟩, fun h => wE_mono h.2 (fun v s h => (key v s).mpr h) (fun _ _ h => h)⟩
  · rename_i hh
    exact ⟨fun h => h.elim, fun h => absurd h.1 hh⟩
theorem w_bagAug {j k : Nat} {a : Int} : wS (pBagAug j k (pC (.int a)) e s) K QS XS ↔ e[j]? = some .bag ∧ wO (s.get k) fun y => 0 ≤ y + a ∧ wO (s.put k (y + a)) fun s => K e s := by
  unfold pBagAug
  split
  · rename_i y h1 h2
    rw [h1, h2, wS_prs]
    show wS (match (PV.d (.int a) : PV), s.get k with | .d (.int x), some z => if 0 ≤ y + x ∧ z = y then (match s.put k (y + x) with | some s => PS.go .nx e s | none => .stuck) else .stuck | _, _ => .stuck) K QS XS ↔ _
    rw [h2]
    simp only [wO_some]
    by_cases hx : 0 ≤ y + a
    · rw [if_pos ⟨hx, trivial⟩]
      cases s.put k (y + a) with
      | none => exact ⟨fun h => h.elim, fun h => h.2.2.elim⟩
      | some s => exact ⟨fun h => ⟨trivial, hx, h⟩, fun h => h.2.2⟩
    · rw [if_neg fun h => hx h.1]; exact ⟨fun h => h.elim, fun h => absurd h.2.1 hx⟩
  · rename_i hh
    refine ⟨fun h => h.elim, fun ⟨h1, h2⟩ => ?_⟩
    cases q : s.get k with
    | none => rw [q] at h2; exact h2.elim
    | some x => exact (hh x h1 q).elim
theorem w_bagCut {j : Nat} : wE (pBagCut j ga e s) Q X ↔ e[j]? = some .bag ∧ wE (ga e s) (fun v s => wO (intV v) fun i => Q (.fr (.l (cutL (s.xs.map .int) (some i) none))) s) X := by
  unfold pBagCut
  split
  · rename_i h1
    rw [h1, wE_bind]
    have key : ∀ (v : PV) (s : Bg), wE (match v with | .d (.int i) => PR.ok (PV.fr (.l (cutL (s.xs.map .int) (some i) none))) s | _ => .stuck) Q X ↔ wO (intV v) fun i => Q (.fr (.l (cutL (s.xs.map .int) (some i) none))) s := fun v s => by
      cases v with
      | d x => cases x <;> exact Iff.rfl
      | _ => exact Iff.rfl
    refine ⟨fun h => ⟨rfl, wE_mono h (fun v s h => (key v s).mp h) (fun _ _ h => h)⟩, fun h => wE_mono h.2 (fun v s h => (key v s).mpr h) (fun _ _ h => h)⟩
  · rename_i hh
    exact ⟨fun h => h.elim, fun h => absurd h.1 hh⟩
end
theorem small_of {a b : Int} (h : -(2 ^ 64) < b ∧ b < 2 ^ 64) : (small64 a || small64 b) = true := by
  rw [Bool.or_eq_true]; exact .inr (decide_eq_true h)
theorem small_of1 {a b : Int} (h : -(2 ^ 64) < a ∧ a < 2 ^ 64) : (small64 a || small64 b) = true := by
  rw [Bool.or_eq_true]; exact .inl (decide_eq_true h)
theorem mod_in (a : Int) {n : Int} (h : 0 < n) : 0 ≤ a % n ∧ a % n < n := ⟨Int.emod_nonneg _ (by omega), Int.emod_lt_of_pos _ h⟩
theorem law_of {r : PS} {v : PV} (h : wS r (fun _ _ => False) (fun f _ _ => f = .rt v) (fun _ _ _ => False)) : ∃ e s, r = .go (.rt v) e s := by
  cases r with
  | go f e s =>
    cases f with
    | nx => exact h.elim
    | rt w => cases (show PFl.rt w = .rt v from h); exact ⟨e, s, rfl⟩
    | bk => cases (show PFl.bk = .rt v from h)
    | ct => cases (show PFl.ct = .rt v from h)
  | exc x e s => exact h.elim
  | stuck => exact h.elim
theorem call_eq {n : Nat} {P : PFn} {g : Pe (List PV)} {e : PEnv} {s s' : Bg} {us : List PV} (h : wE (g e s) (fun vs s1 => frzA vs = some us ∧ us.length = n ∧ s1 = s') (fun _ _ => False)) : pCall n P g e s = P us s' := by
  unfold pCall
  cases q : g e s with
  | ok vs s1 =>
    rw [q] at h
    obtain ⟨h1, h2, h3⟩ := h
    subst h3
    simp only [PR.bind_ok, h1]
    exact if_pos h2
  | exc x s1 => rw [q] at h; exact h.elim
  | stuck => rw [q] at h; exact h.elim
theorem take_ok {n : Int} {s : Bg} {Q : PV → Bg → Prop} {X : PEx → Bg → Prop} (hg : Good s) (h0 : 0 < n) (h1 : n < 1073741824) (h : ∀ v s', 0 ≤ v → v < n → Good s' → Q (.d (.int v)) s') : wE (P__law_take [.bag, .d (.int n)] s) Q X := by
  unfold P__law_take
  refine w_run ?_
  have e : startP 7 [.bag, .d (.int n)] = [.bag, .d (.int n), .no, .no, .no, .no, .no] := rfl
  rw [e]
  unfold q__law_take
  -- the second part
  have part2 : ∀ (s : Bg) (sl2 sl3 : Sl), Good s → wS ((pSeq (pIfS (b2P pGt (pBagIx 0 0) (pC (.int 0)))
(pSeq (pSetF 4 (p2 pMod (pN pInt1 (paC (pBagIx 0 0) paN)) (pV 1))) <|
pSeq (pBagSet 0 0 (p2 pFdiv (pN pInt1 (paC (pBagIx 0 0) paN)) (pV 1))) <|
pRet (pV 4))
(pNop)) <|
pSeq (pSetF 5 (p2 pMod (pN pInt1 (paC (p2 pMul (p2 pAdd (pBagIx 0 1) (pC (.int 1))) (pC (.int 39373))) paN)) (pC (.int 1000000007)))) <|
pSeq (pSetF 6 (p2 pMod (pN pInt1 (paC (p2 pMul (p2 pMod (pN pInt1 (paC (p2 pMul (pV 5) (pV 5)) paN)) (pC (.int 998244353))) (pC (.int 30011))) paN)) (pC (.int 998244353)))) <|
pRet (p2 pMod (pN pInt1 (paC (p2 pFdiv (pV 6) (pC (.int 7))) paN)) (pV 1))) [.bag, .d (.int n), sl2, sl3, .no, .no, .no] s) (fun _ s => Q (.d .none) s) (fun f _ s => match f with | .rt v => Q v s | _ => False) (fun x _ s => X x s) := by
    intro s sl2 sl3 hg
    obtain ⟨a, b, c, xs⟩ := s
    obtain ⟨ha, hb, hc, hx, hl⟩ := hg
    simp only at ha hb hc hx hl
    simp only [w_seq, w_ifS, w_setF, w_set, w_b2, w_bV, w_bAnd, w_bOr, w_bNot, w_bTrue, w_1, w_2, w_N, w_C, w_V, w_aN, w_aC, w_aS, w_call, w_If, w_And, w_Or, w_Not, w_Ch, w_bCh, w_oN, w_oS, w_Sl, w_Rv, w_Join, w_Lc, w_iV, w_iR1, w_iR2, w_nop, w_drop, w_ret, w_retN, w_bk, w_ct, w_asg, w_aug, w_par, w_app, w_ext, w_subS, w_raise, w_for, w_bagIx, w_bagSet, Bg.get, Bg.put, wO_some, wO_none, pd_slV1, pd_slV2, pd_slV3, pd_slD, pd_slL, pd_frz1, pd_frz2, pd_frzA0, pd_frzA1, pd_frzA2, pd_frzA3, pd_frzs0, pd_frzs1, pd_frzs2, pd_retV1, pd_retV2, pd_retV3, pd_oneV, pd_intV, pd_strV, pd_boolP, pd_truN, pd_truB, pd_truI, pd_lst1, pd_lst2, pd_lst3, pd_tup, pd_seq1, pd_seq2, pd_seq3, pd_seq4, pd_it1, pd_it2, pd_it3, pd_it4, pd_thaw0, pd_thaw1, pd_thaw2, pd_sets0, pd_sets1, pd_sets2, pd_setV1, pd_setV2, pd_put1, pd_put2, pd_puts0, pd_puts1, Co.toD, List.getElem?_cons_zero, List.getElem?_cons_succ, List.set_cons_zero, List.set_cons_succ, List.length_cons, List.length_nil, Option.map_some, Option.map_none, Option.bind_some, if_true, if_false, Bool.false_eq_true, true_and, and_true, Bool.not_true, Bool.not_false, decide_true, decide_false, reduceIte, o_gt]
    by_cases hp : 0 < a
    · simp only [hp, decide_true, wO_some, wO_none, pd_slV1, pd_slV2, pd_slV3, pd_slD, pd_slL, pd_frz1, pd_frz2, pd_frzA0, pd_frzA1, pd_frzA2, pd_frzA3, pd_frzs0, pd_frzs1, pd_frzs2, pd_retV1, pd_retV2, pd_retV3, pd_oneV, pd_intV, pd_strV, pd_boolP, pd_truN, pd_truB, pd_truI, pd_lst1, pd_lst2, pd_lst3, pd_tup, pd_seq1, pd_seq2, pd_seq3, pd_seq4, pd_it1, pd_it2, pd_it3, pd_it4, pd_thaw0, pd_thaw1, pd_thaw2, pd_sets0, pd_sets1, pd_sets2, pd_setV1, pd_setV2, pd_put1, pd_put2, pd_puts0, pd_puts1, Co.toD, List.getElem?_cons_zero, List.getElem?_cons_succ, List.set_cons_zero, List.set_cons_succ, List.length_cons, List.length_nil, Option.map_some, Option.map_none, Option.bind_some, if_true, if_false, Bool.false_eq_true, true_and, and_true, Bool.not_true, Bool.not_false, decide_true, decide_false, reduceIte, o_int, o_mod, o_fdiv, w_bagIx, Bg.get]
      refine ⟨h0, ⟨h0, h1⟩, Int.ediv_nonneg ha (by omega), ?_⟩
      have hv := mod_in a h0
      exact h _ _ hv.1 hv.2 ⟨Int.ediv_nonneg ha (by omega), hb, hc, hx, hl⟩
    · simp only [hp, decide_false, wO_some, wO_none, pd_slV1, pd_slV2, pd_slV3, pd_slD, pd_slL, pd_frz1, pd_frz2, pd_frzA0, pd_frzA1, pd_frzA2, pd_frzA3, pd_frzs0, pd_frzs1, pd_frzs2, pd_retV1, pd_retV2, pd_retV3, pd_oneV, pd_intV, pd_strV, pd_boolP, pd_truN, pd_truB, pd_truI, pd_lst1, pd_lst2, pd_lst3, pd_tup, pd_seq1, pd_seq2, pd_seq3, pd_seq4, pd_it1, pd_it2, pd_it3, pd_it4, pd_thaw0, pd_thaw1, pd_thaw2, pd_sets0, pd_sets1, pd_sets2, pd_setV1, pd_setV2, pd_put1, pd_put2, pd_puts0, pd_puts1, Co.toD, List.getElem?_cons_zero, List.getElem?_cons_succ, List.set_cons_zero, List.set_cons_succ, List.length_cons, List.length_nil, Option.map_some, Option.map_none, Option.bind_some, if_true, if_false, Bool.false_eq_true, true_and, and_true, Bool.not_true, Bool.not_false, decide_true, decide_false, reduceIte, o_int, o_mod, o_fdiv, o_add, o_mul, w_bagIx, Bg.get]
      have q1 := mod_in ((b + 1) * 39373) (n := 1000000007) (by omega)
      refine ⟨small_of (by omega), by omega, small_of (by omega), by omega, small_of (by omega), by omega, by omega, h0, ?_⟩
      have hv := mod_in ((b + 1) * 39373 % 1000000007 * ((b + 1) * 39373 % 1000000007) % 998244353 * 30011 % 998244353 / 7) h0
      exact h _ _ hv.1 hv.2 ⟨ha, hb, hc, hx, hl⟩
  rw [w_seq]
  refine wS_mono (K := fun e s => ∃ sl2 sl3, e = [.bag, .d (.int n), sl2, sl3, .no, .no, .no] ∧ Good s) (Q := fun _ _ _ => False) (XS := fun _ _ _ => False) ?_ (fun e s ⟨sl2, sl3, e1, hg⟩ => by subst e1; exact part2 s sl2 sl3 hg) (fun _ _ _ h => h.elim) (fun _ _ _ h => h.elim)
  obtain ⟨a, b, c, xs⟩ := s
  obtain ⟨ha, hb, hc, hx, hl⟩ := hg
  simp only at ha hb hc hx hl
  simp only [w_ifS, w_b2, w_bagIx, w_C, Bg.get, wO_some, wO_none, pd_slV1, pd_slV2, pd_slV3, pd_slD, pd_slL, pd_frz1, pd_frz2, pd_frzA0, pd_frzA1, pd_frzA2, pd_frzA3, pd_frzs0, pd_frzs1, pd_frzs2, pd_retV1, pd_retV2, pd_retV3, pd_oneV, pd_intV, pd_strV, pd_boolP, pd_truN, pd_truB, pd_truI, pd_lst1, pd_lst2, pd_lst3, pd_tup, pd_seq1, pd_seq2, pd_seq3, pd_seq4, pd_it1, pd_it2, pd_it3, pd_it4, pd_thaw0, pd_thaw1, pd_thaw2, pd_sets0, pd_sets1, pd_sets2, pd_setV1, pd_setV2, pd_put1, pd_put2, pd_puts0, pd_puts1, Co.toD, List.getElem?_cons_zero, List.getElem?_cons_succ, List.set_cons_zero, List.set_cons_succ, List.length_cons, List.length_nil, Option.map_some, Option.map_none, Option.bind_some, if_true, if_false, Bool.false_eq_true, true_and, and_true, Bool.not_true, Bool.not_false, decide_true, decide_false, reduceIte, o_eqi]
  by_cases hz : a = 0
  · subst hz
    simp only [decide_true, wO_some, wO_none, pd_slV1, pd_slV2, pd_slV3, pd_slD, pd_slL, pd_frz1, pd_frz2, pd_frzA0, pd_frzA1, pd_frzA2, pd_frzA3, pd_frzs0, pd_frzs1, pd_frzs2, pd_retV1, pd_retV2, pd_retV3, pd_oneV, pd_intV, pd_strV, pd_boolP, pd_truN, pd_truB, pd_truI, pd_lst1, pd_lst2, pd_lst3, pd_tup, pd_seq1, pd_seq2, pd_seq3, pd_seq4, pd_it1, pd_it2, pd_it3, pd_it4, pd_thaw0, pd_thaw1, pd_thaw2, pd_sets0, pd_sets1, pd_sets2, pd_setV1, pd_setV2, pd_put1, pd_put2, pd_puts0, pd_puts1, Co.toD, List.getElem?_cons_zero, List.getElem?_cons_succ, List.set_cons_zero, List.set_cons_succ, List.length_cons, List.length_nil, Option.map_some, Option.map_none, Option.bind_some, if_true, if_false, Bool.false_eq_true, true_and, and_true, Bool.not_true, Bool.not_false, decide_true, decide_false, reduceIte]
    simp only [w_seq, w_setF, w_2, w_C, w_N, w_aC, w_aN, w_bagCut, w_bagIx, Bg.get, wO_some, wO_none, pd_slV1, pd_slV2, pd_slV3, pd_slD, pd_slL, pd_frz1, pd_frz2, pd_frzA0, pd_frzA1, pd_frzA2, pd_frzA3, pd_frzs0, pd_frzs1, pd_frzs2, pd_retV1, pd_retV2, pd_retV3, pd_oneV, pd_intV, pd_strV, pd_boolP, pd_truN, pd_truB, pd_truI, pd_lst1, pd_lst2, pd_lst3, pd_tup, pd_seq1, pd_seq2, pd_seq3, pd_seq4, pd_it1, pd_it2, pd_it3, pd_it4, pd_thaw0, pd_thaw1, pd_thaw2, pd_sets0, pd_sets1, pd_sets2, pd_setV1, pd_setV2, pd_put1, pd_put2, pd_puts0, pd_puts1, Co.toD, List.getElem?_cons_zero, List.getElem?_cons_succ, List.set_cons_zero, List.set_cons_succ, List.length_cons, List.length_nil, Option.map_some, Option.map_none, Option.bind_some, if_true, if_false, Bool.false_eq_true, true_and, and_true, Bool.not_true, Bool.not_false, decide_true, decide_false, reduceIte, o_lst]
    refine ⟨by decide, ?_⟩
    generalize hcut : cutL (xs.map PyData.int) (some c) none = cut
    have hcl : cut.length ≤ 63 ∧ ∀ w ∈ cut, ∃ x : Int, w = .int x ∧ 0 ≤ x := by
      rw [← hcut]
      unfold cutL
      refine ⟨?_, fun w hw => ?_⟩
      · rw [List.length_take, List.length_drop, List.length_map]; omega
      · have := List.mem_of_mem_drop (List.mem_of_mem_take hw)
        obtain ⟨x, h1, h2⟩ := List.mem_map.mp this
        exact ⟨x, h2.symm, hx x h1⟩
    rw [o_cat (xs := cut) (ys := [.int 0]) rfl rfl]
    refine ⟨by show cut.length + 1 ≤ 16777216; omega, ?_⟩
    rw [o_ix (xs := cut ++ [.int 0]) rfl]
    obtain ⟨x, hx0, hxw⟩ : ∃ x : Int, 0 ≤ x ∧ atI (cut ++ [PyData.int 0]) 0 = some (.int x) := by
      cases cut with
      | nil => exact ⟨0, by omega, at_0⟩
      | cons w r =>
        obtain ⟨x, e, h2⟩ := hcl.2 w (by simp)
        exact ⟨x, h2, by rw [e]; exact at_0⟩
    rw [hxw]
    simp only [wO_some, wO_none, pd_slV1, pd_slV2, pd_slV3, pd_slD, pd_slL, pd_frz1, pd_frz2, pd_frzA0, pd_frzA1, pd_frzA2, pd_frzA3, pd_frzs0, pd_frzs1, pd_frzs2, pd_retV1, pd_retV2, pd_retV3, pd_oneV, pd_intV, pd_strV, pd_boolP, pd_truN, pd_truB, pd_truI, pd_lst1, pd_lst2, pd_lst3, pd_tup, pd_seq1, pd_seq2, pd_seq3, pd_seq4, pd_it1, pd_it2, pd_it3, pd_it4, pd_thaw0, pd_thaw1, pd_thaw2, pd_sets0, pd_sets1, pd_sets2, pd_setV1, pd_setV2, pd_put1, pd_put2, pd_puts0, pd_puts1, Co.toD, List.getElem?_cons_zero, List.getElem?_cons_succ, List.set_cons_zero, List.set_cons_succ, List.length_cons, List.length_nil, Option.map_some, Option.map_none, Option.bind_some, if_true, if_false, Bool.false_eq_true, true_and, and_true, Bool.not_true, Bool.not_false, decide_true, decide_false, reduceIte, w_bagAug, Bg.get, Bg.put]
    refine ⟨by omega, ?_⟩
    simp only [w_ifS, w_b2, w_2, w_C, w_V, wO_some, wO_none, pd_slV1, pd_slV2, pd_slV3, pd_slD, pd_slL, pd_frz1, pd_frz2, pd_frzA0, pd_frzA1, pd_frzA2, pd_frzA3, pd_frzs0, pd_frzs1, pd_frzs2, pd_retV1, pd_retV2, pd_retV3, pd_oneV, pd_intV, pd_strV, pd_boolP, pd_truN, pd_truB, pd_truI, pd_lst1, pd_lst2, pd_lst3, pd_tup, pd_seq1, pd_seq2, pd_seq3, pd_seq4, pd_it1, pd_it2, pd_it3, pd_it4, pd_thaw0, pd_thaw1, pd_thaw2, pd_sets0, pd_sets1, pd_sets2, pd_setV1, pd_setV2, pd_put1, pd_put2, pd_puts0, pd_puts1, Co.toD, List.getElem?_cons_zero, List.getElem?_cons_succ, List.set_cons_zero, List.set_cons_succ, List.length_cons, List.length_nil, Option.map_some, Option.map_none, Option.bind_some, if_true, if_false, Bool.false_eq_true, true_and, and_true, Bool.not_true, Bool.not_false, decide_true, decide_false, reduceIte, o_pow, o_ge]
    refine ⟨by decide, ?_⟩
    by_cases hbig : (10 : Int) ^ (Int.toNat 18) ≤ x
    · simp only [hbig, decide_true, w_seq, w_ifS, w_setF, w_set, w_b2, w_bV, w_bAnd, w_bOr, w_bNot, w_bTrue, w_1, w_2, w_N, w_C, w_V, w_aN, w_aC, w_aS, w_call, w_If, w_And, w_Or, w_Not, w_Ch, w_bCh, w_oN, w_oS, w_Sl, w_Rv, w_Join, w_Lc, w_iV, w_iR1, w_iR2, w_nop, w_drop, w_ret, w_retN, w_bk, w_ct, w_asg, w_aug, w_par, w_app, w_ext, w_subS, w_raise, w_for, w_bagIx, w_bagSet, Bg.get, Bg.put, wO_some, wO_none, pd_slV1, pd_slV2, pd_slV3, pd_slD, pd_slL, pd_frz1, pd_frz2, pd_frzA0, pd_frzA1, pd_frzA2, pd_frzA3, pd_frzs0, pd_frzs1, pd_frzs2, pd_retV1, pd_retV2, pd_retV3, pd_oneV, pd_intV, pd_strV, pd_boolP, pd_truN, pd_truB, pd_truI, pd_lst1, pd_lst2, pd_lst3, pd_tup, pd_seq1, pd_seq2, pd_seq3, pd_seq4, pd_it1, pd_it2, pd_it3, pd_it4, pd_thaw0, pd_thaw1, pd_thaw2, pd_sets0, pd_sets1, pd_sets2, pd_setV1, pd_setV2, pd_put1, pd_put2, pd_puts0, pd_puts1, Co.toD, List.getElem?_cons_zero, List.getElem?_cons_succ, List.set_cons_zero, List.set_cons_succ, List.length_cons, List.length_nil, Option.map_some, Option.map_none, Option.bind_some, if_true, if_false, Bool.false_eq_true, true_and, and_true, Bool.not_true, Bool.not_false, decide_true, decide_false, reduceIte, o_mul, o_int, o_mod, o_add]
      exact ⟨hx0, small_of (by omega), by omega, small_of1 (by omega), by omega, (mod_in _ (by omega)).1, _, _, rfl, hx0, (mod_in _ (by omega)).1, by show 0 ≤ c + 1; omega, hx, hl⟩
    · simp only [hbig, decide_false, w_seq, w_ifS, w_setF, w_set, w_b2, w_bV, w_bAnd, w_bOr, w_bNot, w_bTrue, w_1, w_2, w_N, w_C, w_V, w_aN, w_aC, w_aS, w_call, w_If, w_And, w_Or, w_Not, w_Ch, w_bCh, w_oN, w_oS, w_Sl, w_Rv, w_Join, w_Lc, w_iV, w_iR1, w_iR2, w_nop, w_drop, w_ret, w_retN, w_bk, w_ct, w_asg, w_aug, w_par, w_app, w_ext, w_subS, w_raise, w_for, w_bagIx, w_bagSet, Bg.get, Bg.put, wO_some, wO_none, pd_slV1, pd_slV2, pd_slV3, pd_slD, pd_slL, pd_frz1, pd_frz2, pd_frzA0, pd_frzA1, pd_frzA2, pd_frzA3, pd_frzs0, pd_frzs1, pd_frzs2, pd_retV1, pd_retV2, pd_retV3, pd_oneV, pd_intV, pd_strV, pd_boolP, pd_truN, pd_truB, pd_truI, pd_lst1, pd_lst2, pd_lst3, pd_tup, pd_seq1, pd_seq2, pd_seq3, pd_seq4, pd_it1, pd_it2, pd_it3, pd_it4, pd_thaw0, pd_thaw1, pd_thaw2, pd_sets0, pd_sets1, pd_sets2, pd_setV1, pd_setV2, pd_put1, pd_put2, pd_puts0, pd_puts1, Co.toD, List.getElem?_cons_zero, List.getElem?_cons_succ, List.set_cons_zero, List.set_cons_succ, List.length_cons, List.length_nil, Option.map_some, Option.map_none, Option.bind_some, if_true, if_false, Bool.false_eq_true, true_and, and_true, Bool.not_true, Bool.not_false, decide_true, decide_false, reduceIte, o_mul, o_int, o_mod, o_add]
      exact ⟨small_of (by omega), by omega, small_of1 (by omega), by omega, (mod_in _ (by omega)).1, _, _, rfl, Int.le_refl 0, (mod_in _ (by omega)).1, by show 0 ≤ c + 1; omega, hx, hl⟩
  · simp only [hz, decide_false, wO_some, wO_none, pd_slV1, pd_slV2, pd_slV3, pd_slD, pd_slL, pd_frz1, pd_frz2, pd_frzA0, pd_frzA1, pd_frzA2, pd_frzA3, pd_frzs0, pd_frzs1, pd_frzs2, pd_retV1, pd_retV2, pd_retV3, pd_oneV, pd_intV, pd_strV, pd_boolP, pd_truN, pd_truB, pd_truI, pd_lst1, pd_lst2, pd_lst3, pd_tup, pd_seq1, pd_seq2, pd_seq3, pd_seq4, pd_it1, pd_it2, pd_it3, pd_it4, pd_thaw0, pd_thaw1, pd_thaw2, pd_sets0, pd_sets1, pd_sets2, pd_setV1, pd_setV2, pd_put1, pd_put2, pd_puts0, pd_puts1, Co.toD, List.getElem?_cons_zero, List.getElem?_cons_succ, List.set_cons_zero, List.set_cons_succ, List.length_cons, List.length_nil, Option.map_some, Option.map_none, Option.bind_some, if_true, if_false, Bool.false_eq_true, true_and, and_true, Bool.not_true, Bool.not_false, decide_true, decide_false, reduceIte, w_nop]
    exact ⟨_, _, rfl, ha, hb, hc, hx, hl⟩
theorem take_okN {n : Int} {s : Bg} {Q : PV → Bg → Prop} {X : PEx → Bg → Prop} (hg : Good s) (h0 : 0 < n) (h1 : n < 1073741824) (h : ∀ (v : Nat) s', (v : Int) < n → Good s' → Q (.d (.int (v : Int))) s') : wE (P__law_take [.bag, .d (.int n)] s) Q X :=
  take_ok hg h0 h1 fun v s' a b g => by
    have e : ((v.toNat : Nat) : Int) = v := Int.toNat_of_nonneg a
    have k := h v.toNat s' (by rw [e]; exact b) g
    rw [e] at k
    exact k
theorem some_ok {v : PyData} {xs : List PyData} {s : Bg} {Q : PV → Bg → Prop} {X : PEx → Bg → Prop} (hg : Good s) (hs : seqP (.d v) = some xs) (h0 : 0 < xs.length) (h1 : xs.length < 1073741824) (h : ∀ (k : Nat) y s', xs[k]? = some y → Good s' → Q (.d y) s') : wE (P__law_some [.bag, .d v] s) Q X := by
  unfold P__law_some
  refine w_run ?_
  have e : startP 2 [.bag, .d v] = [.bag, .d v] := rfl
  rw [e]
  unfold q__law_some
  simp only [w_ret, w_2, w_call, w_aC, w_aN, w_V, w_N, wO_some, wO_none, pd_slV1, pd_slV2, pd_slV3, pd_slD, pd_slL, pd_frz1, pd_frz2, pd_frzA0, pd_frzA1, pd_frzA2, pd_frzA3, pd_frzs0, pd_frzs1, pd_frzs2, pd_retV1, pd_retV2, pd_retV3, pd_oneV, pd_intV, pd_strV, pd_boolP, pd_truN, pd_truB, pd_truI, pd_lst1, pd_lst2, pd_lst3, pd_tup, pd_seq1, pd_seq2, pd_seq3, pd_seq4, pd_it1, pd_it2, pd_it3, pd_it4, pd_thaw0, pd_thaw1, pd_thaw2, pd_sets0, pd_sets1, pd_sets2, pd_setV1, pd_setV2, pd_put1, pd_put2, pd_puts0, pd_puts1, Co.toD, List.getElem?_cons_zero, List.getElem?_cons_succ, List.set_cons_zero, List.set_cons_succ, List.length_cons, List.length_nil, Option.map_some, Option.map_none, Option.bind_some, if_true, if_false, Bool.false_eq_true, true_and, and_true, Bool.not_true, Bool.not_false, decide_true, decide_false, reduceIte, o_len hs]
  refine take_ok hg (by omega) (by omega) fun k s1 k0 k1 hg1 => ?_
  rw [o_ix hs]
  obtain ⟨j, rfl⟩ : ∃ j : Nat, k = (j : Int) := ⟨k.toNat, by omega⟩
  have hj : j < xs.length := by omega
  rw [at_nat hj, List.getElem?_eq_getElem hj]
  simp only [wO_some, wO_none, pd_slV1, pd_slV2, pd_slV3, pd_slD, pd_slL, pd_frz1, pd_frz2, pd_frzA0, pd_frzA1, pd_frzA2, pd_frzA3, pd_frzs0, pd_frzs1, pd_frzs2, pd_retV1, pd_retV2, pd_retV3, pd_oneV, pd_intV, pd_strV, pd_boolP, pd_truN, pd_truB, pd_truI, pd_lst1, pd_lst2, pd_lst3, pd_tup, pd_seq1, pd_seq2, pd_seq3, pd_seq4, pd_it1, pd_it2, pd_it3, pd_it4, pd_thaw0, pd_thaw1, pd_thaw2, pd_sets0, pd_sets1, pd_sets2, pd_setV1, pd_setV2, pd_put1, pd_put2, pd_puts0, pd_puts1, Co.toD, List.getElem?_cons_zero, List.getElem?_cons_succ, List.set_cons_zero, List.set_cons_succ, List.length_cons, List.length_nil, Option.map_some, Option.map_none, Option.bind_some, if_true, if_false, Bool.false_eq_true, true_and, and_true, Bool.not_true, Bool.not_false, decide_true, decide_false, reduceIte]
  exact h j _ s1 (List.getElem?_eq_getElem hj) hg1
end PD
set_option Elab.async false
set_option linter.all false
set_option maxRecDepth 100000
set_option maxHeartbeats 4000000
namespace PD
open PySem PySem.Spec PyProof.Rows L2 DL Hn
mutual
/-- data without a dict -/
def plD : PyData → Bool
  | .none => true | .bool _ => true | .int _ => true | .str _ => true
  | .tuple ds => plDs ds
  | .list ds => plDs ds
  | .dict _ => false
def plDs : List PyData → Bool
  | [] => true
  | x :: r => plD x && plDs r
end
theorem plDs_iff : ∀ {ds : List PyData}, plDs ds = true ↔ ∀ d ∈ ds, plD d = true
  | [] => by simp [plDs]
  | x :: r => by
    rw [plDs, Bool.and_eq_true, plDs_iff]
    simp
def itemsD : PyData → List PyData
  | .tuple ds => ds
  | .list ds => ds
  | _ => []
theorem psz_items (y : PyData) : psz y = pszs (itemsD y) + 1 := by cases y <;> simp [psz, itemsD, pszs]
theorem eqv_leaf {y : PyData} (h : flatD y = true) : scalD y y = true ∧ PyData.eqv y y = true := by
  cases y <;> first | (cases h; done) | exact ⟨rfl, by simp [PyData.eqv]⟩
def pairD (y : PyData) : PyData := .tuple [y, y]
theorem zip_self (cs : List PyData) : (cs.zip cs).map (fun p => PyData.tuple [p.1, p.2]) = cs.map pairD := by
  induction cs with
  | nil => rfl
  | cons c cs ih => rw [List.zip_cons_cons, List.map_cons, List.map_cons, ih]; rfl
theorem isT_seq (y : PyData) : (["tuple", "list"].any (isT (tyD y)) = true) ↔ (∃ ds, y = .tuple ds) ∨ ∃ ds, y = .list ds := by
  cases y <;> simp [tyD, isT]
theorem o_lz1 {a b : PV} {xs ys : List PyData} {Q : PV → Prop} (h : lstP a = some xs) (h2 : lstP b = some ys) : wO (pLz [a, b]) Q ↔ Q (.fr (.l ((xs.zip ys).map fun p => .tuple [p.1, p.2]))) := by
  show wO (match lstP a, lstP b with
    | some xs, some ys => some (PV.fr (.l ((xs.zip ys).map fun p => .tuple [p.1, p.2])))
    | _, _ => match tupP a, tupP b with
      | some xs, some ys => some (.fr (.l ((xs.zip ys).map fun p => .tuple [p.1, p.2])))
      | _, _ => none) Q ↔ _
  rw [h, h2, wO_some]
theorem o_lz2 {xs ys : List PyData} {Q : PV → Prop} : wO (pLz [.d (.tuple xs), .d (.tuple ys)]) Q ↔ Q (.fr (.l ((xs.zip ys).map fun p => .tuple [p.1, p.2]))) := by
  have e : pLz [.d (.tuple xs), .d (.tuple ys)] = some (.fr (.l ((xs.zip ys).map fun p => .tuple [p.1, p.2]))) := rfl
  rw [e, wO_some]
theorem pszs_drop {ys : List PyData} {k : Nat} {y : PyData} (h : ys[k]? = some y) : pszs (ys.drop k) = psz y + pszs (ys.drop (k + 1)) := by
  obtain ⟨hk, e⟩ := List.getElem?_eq_some_iff.mp h
  rw [List.drop_eq_getElem_cons hk, e]
  rfl
/-- a value is like itself -/
theorem alike_self {x : PyData} {s : Bg} (hp : plD x = true) (hz : psz x ≤ LIM) : P__law_alike [.d x, .d x] s = .ok (.d (.bool true)) s := by
  unfold P__law_alike
  refine run_eq ?_
  have e : startP 6 [.d x, .d x] = [.d x, .d x, .no, .no, .no, .no] := rfl
  rw [e]
  unfold q__law_alike
  rw [w_seq, w_par]
  simp only [w_seq, w_ifS, w_setF, w_set, w_b2, w_bV, w_bAnd, w_bOr, w_bNot, w_bTrue, w_1, w_2, w_N, w_C, w_V, w_aN, w_aC, w_aS, w_call, w_If, w_And, w_Or, w_Not, w_Ch, w_bCh, w_oN, w_oS, w_Sl, w_Rv, w_Join, w_Lc, w_iV, w_iR1, w_iR2, w_nop, w_drop, w_ret, w_retN, w_bk, w_ct, w_asg, w_aug, w_par, w_app, w_ext, w_subS, w_raise, w_for, wO_some, wO_none, pd_slV1, pd_slV2, pd_slV3, pd_slD, pd_slL, pd_frz1, pd_frz2, pd_frzA0, pd_frzA1, pd_frzA2, pd_frzA3, pd_frzs0, pd_frzs1, pd_frzs2, pd_retV1, pd_retV2, pd_retV3, pd_oneV, pd_intV, pd_strV, pd_boolP, pd_truN, pd_truB, pd_truI, pd_lst1, pd_lst2, pd_lst3, pd_tup, pd_seq1, pd_seq2, pd_seq3, pd_seq4, pd_it1, pd_it2, pd_it3, pd_it4, pd_thaw0, pd_thaw1, pd_thaw2, pd_sets0, pd_sets1, pd_sets2, pd_setV1, pd_setV2, pd_put1, pd_put2, pd_puts0, pd_puts1, Co.toD, List.getElem?_cons_zero, List.getElem?_cons_succ, List.set_cons_zero, List.set_cons_succ, List.length_cons, List.length_nil, Option.map_some, Option.map_none, Option.bind_some, if_true, if_false, Bool.false_eq_true, true_and, and_true, Bool.not_true, Bool.not_false, decide_true, decide_false, reduceIte, o_tup, o_lst]
  refine ⟨(by decide : 2 ≤ 16777216), (by decide : 1 ≤ 16777216), ?_⟩
  refine w_while (fun k e s1 => ∃ (ys : List PyData) (at_ : Nat) (sl4 sl5 : Sl), e = [.d x, .d x, .own (.l (ys.map pairD)), .d (.int at_), sl4, sl5] ∧ s1 = s ∧ (∀ y ∈ ys, plD y = true) ∧ at_ ≤ ys.length ∧ at_ + pszs (ys.drop at_) = psz x ∧ k = pszs (ys.drop at_)) ?_ (psz x) _ _ ⟨[x], 0, .no, .no, rfl, rfl, by simpa using hp, by simp, by simp [pszs], by simp [pszs]⟩
  rintro k e s1 ⟨ys, at_, sl4, sl5, rfl, rfl, hpl, hat, hsum, rfl⟩
  simp only [w_b2, w_V, w_N, w_aC, w_aN, wO_some, wO_none, pd_slV1, pd_slV2, pd_slV3, pd_slD, pd_slL, pd_frz1, pd_frz2, pd_frzA0, pd_frzA1, pd_frzA2, pd_frzA3, pd_frzs0, pd_frzs1, pd_frzs2, pd_retV1, pd_retV2, pd_retV3, pd_oneV, pd_intV, pd_strV, pd_boolP, pd_truN, pd_truB, pd_truI, pd_lst1, pd_lst2, pd_lst3, pd_tup, pd_seq1, pd_seq2, pd_seq3, pd_seq4, pd_it1, pd_it2, pd_it3, pd_it4, pd_thaw0, pd_thaw1, pd_thaw2, pd_sets0, pd_sets1, pd_sets2, pd_setV1, pd_setV2, pd_put1, pd_put2, pd_puts0, pd_puts1, Co.toD, List.getElem?_cons_zero, List.getElem?_cons_succ, List.set_cons_zero, List.set_cons_succ, List.length_cons, List.length_nil, Option.map_some, Option.map_none, Option.bind_some, if_true, if_false, Bool.false_eq_true, true_and, and_true, Bool.not_true, Bool.not_false, decide_true, decide_false, reduceIte, o_lenB, o_lt, List.length_map]
  by_cases hlt : at_ < ys.length
  · have h1 : ((at_ : Int) < (ys.length : Int)) := by omega
    simp only [h1, decide_true, wO_some, wO_none, pd_slV1, pd_slV2, pd_slV3, pd_slD, pd_slL, pd_frz1, pd_frz2, pd_frzA0, pd_frzA1, pd_frzA2, pd_frzA3, pd_frzs0, pd_frzs1, pd_frzs2, pd_retV1, pd_retV2, pd_retV3, pd_oneV, pd_intV, pd_strV, pd_boolP, pd_truN, pd_truB, pd_truI, pd_lst1, pd_lst2, pd_lst3, pd_tup, pd_seq1, pd_seq2, pd_seq3, pd_seq4, pd_it1, pd_it2, pd_it3, pd_it4, pd_thaw0, pd_thaw1, pd_thaw2, pd_sets0, pd_sets1, pd_sets2, pd_setV1, pd_setV2, pd_put1, pd_put2, pd_puts0, pd_puts1, Co.toD, List.getElem?_cons_zero, List.getElem?_cons_succ, List.set_cons_zero, List.set_cons_succ, List.length_cons, List.length_nil, Option.map_some, Option.map_none, Option.bind_some, if_true, if_false, Bool.false_eq_true, true_and, and_true, Bool.not_true, Bool.not_false, decide_true, decide_false, reduceIte]
    have hy := List.getElem?_eq_getElem hlt
    generalize ys[at_] = y at hy
    have hyp : plD y = true := hpl y (List.mem_of_getElem? hy)
    have hdrop := pszs_drop hy
    have hpos := psz_pos y
    have hl2 := pszs_len (ys.drop (at_ + 1))
    rw [List.length_drop] at hl2
    simp only [w_seq, w_asg, w_2, w_V, wO_some, wO_none, pd_slV1, pd_slV2, pd_slV3, pd_slD, pd_slL, pd_frz1, pd_frz2, pd_frzA0, pd_frzA1, pd_frzA2, pd_frzA3, pd_frzs0, pd_frzs1, pd_frzs2, pd_retV1, pd_retV2, pd_retV3, pd_oneV, pd_intV, pd_strV, pd_boolP, pd_truN, pd_truB, pd_truI, pd_lst1, pd_lst2, pd_lst3, pd_tup, pd_seq1, pd_seq2, pd_seq3, pd_seq4, pd_it1, pd_it2, pd_it3, pd_it4, pd_thaw0, pd_thaw1, pd_thaw2, pd_sets0, pd_sets1, pd_sets2, pd_setV1, pd_setV2, pd_put1, pd_put2, pd_puts0, pd_puts1, Co.toD, List.getElem?_cons_zero, List.getElem?_cons_succ, List.set_cons_zero, List.set_cons_succ, List.length_cons, List.length_nil, Option.map_some, Option.map_none, Option.bind_some, if_true, if_false, Bool.false_eq_true, true_and, and_true, Bool.not_true, Bool.not_false, decide_true, decide_false, reduceIte]
    rw [o_ix (xs := ys.map pairD) rfl, at_nat (by simpa using hlt), List.getElem?_map, hy]
    simp only [wO_some, wO_none, pd_slV1, pd_slV2, pd_slV3, pd_slD, pd_slL, pd_frz1, pd_frz2, pd_frzA0, pd_frzA1, pd_frzA2, pd_frzA3, pd_frzs0, pd_frzs1, pd_frzs2, pd_retV1, pd_retV2, pd_retV3, pd_oneV, pd_intV, pd_strV, pd_boolP, pd_truN, pd_truB, pd_truI, pd_lst1, pd_lst2, pd_lst3, pd_tup, pd_seq1, pd_seq2, pd_seq3, pd_seq4, pd_it1, pd_it2, pd_it3, pd_it4, pd_thaw0, pd_thaw1, pd_thaw2, pd_sets0, pd_sets1, pd_sets2, pd_setV1, pd_setV2, pd_put1, pd_put2, pd_puts0, pd_puts1, Co.toD, List.getElem?_cons_zero, List.getElem?_cons_succ, List.set_cons_zero, List.set_cons_succ, List.length_cons, List.length_nil, Option.map_some, Option.map_none, Option.bind_some, if_true, if_false, Bool.false_eq_true, true_and, and_true, Bool.not_true, Bool.not_false, decide_true, decide_false, reduceIte, pairD, w_aug, w_C, o_iadd, w_ifS, w_bOr, w_b2, w_1, w_V, o_isi, o_neb, w_bV, beq_self_eq_true, w_nop]
    have step : ∀ cs : List PyData, itemsD y = cs → (∀ c ∈ cs, plD c = true) → ∃ j, j < pszs (ys.drop at_) ∧ ∃ (ys' : List PyData) (at' : Nat) (sl4 sl5 : Sl), ([Sl.d x, .d x, .own (.l ((ys.map pairD) ++ cs.map pairD)), .d (.int ((at_ : Int) + 1)), .d y, .d y] : PEnv) = [.d x, .d x, .own (.l (ys'.map pairD)), .d (.int at'), sl4, sl5] ∧ (∀ y ∈ ys', plD y = true) ∧ at' ≤ ys'.length ∧ at' + pszs (ys'.drop at') = psz x ∧ j = pszs (ys'.drop at') := fun cs hcs hcp => by
      have e1 := psz_items y
      rw [hcs] at e1
      have e2 : pszs ((ys ++ cs).drop (at_ + 1)) = pszs (ys.drop (at_ + 1)) + pszs cs := by
        rw [List.drop_append_of_le_length (by omega), pszs_append]
      refine ⟨_, ?_, ys ++ cs, at_ + 1, .d y, .d y, by rw [List.map_append]; rfl, fun z hz => ?_, by rw [List.length_append]; omega, by rw [e2]; omega, rfl⟩
      · rw [e2]; omega
      · rcases List.mem_append.mp hz with h | h
        · exact hpl z h
        · exact hcp z h
    have hlim : ∀ cs : List PyData, itemsD y = cs → (ys.map pairD).length + (cs.map pairD).length ≤ LIM := fun cs hcs => by
      have e1 := psz_items y
      rw [hcs] at e1
      have := pszs_len cs
      rw [List.length_map, List.length_map]
      omega
    by_cases hseq : ["tuple", "list"].any (isT (tyD y)) = true
    · simp only [hseq, wO_some, wO_none, pd_slV1, pd_slV2, pd_slV3, pd_slD, pd_slL, pd_frz1, pd_frz2, pd_frzA0, pd_frzA1, pd_frzA2, pd_frzA3, pd_frzs0, pd_frzs1, pd_frzs2, pd_retV1, pd_retV2, pd_retV3, pd_oneV, pd_intV, pd_strV, pd_boolP, pd_truN, pd_truB, pd_truI, pd_lst1, pd_lst2, pd_lst3, pd_tup, pd_seq1, pd_seq2, pd_seq3, pd_seq4, pd_it1, pd_it2, pd_it3, pd_it4, pd_thaw0, pd_thaw1, pd_thaw2, pd_sets0, pd_sets1, pd_sets2, pd_setV1, pd_setV2, pd_put1, pd_put2, pd_puts0, pd_puts1, Co.toD, List.getElem?_cons_zero, List.getElem?_cons_succ, List.set_cons_zero, List.set_cons_succ, List.length_cons, List.length_nil, Option.map_some, Option.map_none, Option.bind_some, if_true, if_false, Bool.false_eq_true, true_and, and_true, Bool.not_true, Bool.not_false, decide_true, decide_false, reduceIte]
      rcases (isT_seq y).mp hseq with ⟨ds, rfl⟩ | ⟨ds, rfl⟩
      · simp only [w_seq, w_ifS, w_bOr, w_b2, w_1, w_V, w_N, w_aC, w_aN, w_ext, wO_some, wO_none, pd_slV1, pd_slV2, pd_slV3, pd_slD, pd_slL, pd_frz1, pd_frz2, pd_frzA0, pd_frzA1, pd_frzA2, pd_frzA3, pd_frzs0, pd_frzs1, pd_frzs2, pd_retV1, pd_retV2, pd_retV3, pd_oneV, pd_intV, pd_strV, pd_boolP, pd_truN, pd_truB, pd_truI, pd_lst1, pd_lst2, pd_lst3, pd_tup, pd_seq1, pd_seq2, pd_seq3, pd_seq4, pd_it1, pd_it2, pd_it3, pd_it4, pd_thaw0, pd_thaw1, pd_thaw2, pd_sets0, pd_sets1, pd_sets2, pd_setV1, pd_setV2, pd_put1, pd_put2, pd_puts0, pd_puts1, Co.toD, List.getElem?_cons_zero, List.getElem?_cons_succ, List.set_cons_zero, List.set_cons_succ, List.length_cons, List.length_nil, Option.map_some, Option.map_none, Option.bind_some, if_true, if_false, Bool.false_eq_true, true_and, and_true, Bool.not_true, Bool.not_false, decide_true, decide_false, reduceIte, o_isi, o_neb, o_lenT, o_nei, beq_self_eq_true, w_nop, o_lz2, zip_self]
        exact ⟨hlim ds rfl, step ds rfl (plDs_iff.mp hyp)⟩
      · simp only [w_seq, w_ifS, w_bOr, w_b2, w_1, w_V, w_N, w_aC, w_aN, w_ext, wO_some, wO_none, pd_slV1, pd_slV2, pd_slV3, pd_slD, pd_slL, pd_frz1, pd_frz2, pd_frzA0, pd_frzA1, pd_frzA2, pd_frzA3, pd_frzs0, pd_frzs1, pd_frzs2, pd_retV1, pd_retV2, pd_retV3, pd_oneV, pd_intV, pd_strV, pd_boolP, pd_truN, pd_truB, pd_truI, pd_lst1, pd_lst2, pd_lst3, pd_tup, pd_seq1, pd_seq2, pd_seq3, pd_seq4, pd_it1, pd_it2, pd_it3, pd_it4, pd_thaw0, pd_thaw1, pd_thaw2, pd_sets0, pd_sets1, pd_sets2, pd_setV1, pd_setV2, pd_put1, pd_put2, pd_puts0, pd_puts1, Co.toD, List.getElem?_cons_zero, List.getElem?_cons_succ, List.set_cons_zero, List.set_cons_succ, List.length_cons, List.length_nil, Option.map_some, Option.map_none, Option.bind_some, if_true, if_false, Bool.false_eq_true, true_and, and_true, Bool.not_true, Bool.not_false, decide_true, decide_false, reduceIte, o_isi, o_neb, o_lenL, o_nei, beq_self_eq_true, w_nop]
        rw [o_lz1 (xs := ds) (ys := ds) rfl rfl, zip_self]
        simp only [wO_some, wO_none, pd_slV1, pd_slV2, pd_slV3, pd_slD, pd_slL, pd_frz1, pd_frz2, pd_frzA0, pd_frzA1, pd_frzA2, pd_frzA3, pd_frzs0, pd_frzs1, pd_frzs2, pd_retV1, pd_retV2, pd_retV3, pd_oneV, pd_intV, pd_strV, pd_boolP, pd_truN, pd_truB, pd_truI, pd_lst1, pd_lst2, pd_lst3, pd_tup, pd_seq1, pd_seq2, pd_seq3, pd_seq4, pd_it1, pd_it2, pd_it3, pd_it4, pd_thaw0, pd_thaw1, pd_thaw2, pd_sets0, pd_sets1, pd_sets2, pd_setV1, pd_setV2, pd_put1, pd_put2, pd_puts0, pd_puts1, Co.toD, List.getElem?_cons_zero, List.getElem?_cons_succ, List.set_cons_zero, List.set_cons_succ, List.length_cons, List.length_nil, Option.map_some, Option.map_none, Option.bind_some, if_true, if_false, Bool.false_eq_true, true_and, and_true, Bool.not_true, Bool.not_false, decide_true, decide_false, reduceIte]
        exact ⟨hlim ds rfl, step ds rfl (plDs_iff.mp hyp)⟩
    · have hs : ["tuple", "list"].any (isT (tyD y)) = false := by simpa using hseq
      have hf : flatD y = true := by
        cases y with
        | tuple _ => simp [tyD, isT] at hs
        | list _ => simp [tyD, isT] at hs
        | dict _ => cases hyp
        | _ => rfl
      have hl := eqv_leaf hf
      simp only [hs, wO_some, wO_none, pd_slV1, pd_slV2, pd_slV3, pd_slD, pd_slL, pd_frz1, pd_frz2, pd_frzA0, pd_frzA1, pd_frzA2, pd_frzA3, pd_frzs0, pd_frzs1, pd_frzs2, pd_retV1, pd_retV2, pd_retV3, pd_oneV, pd_intV, pd_strV, pd_boolP, pd_truN, pd_truB, pd_truI, pd_lst1, pd_lst2, pd_lst3, pd_tup, pd_seq1, pd_seq2, pd_seq3, pd_seq4, pd_it1, pd_it2, pd_it3, pd_it4, pd_thaw0, pd_thaw1, pd_thaw2, pd_sets0, pd_sets1, pd_sets2, pd_setV1, pd_setV2, pd_put1, pd_put2, pd_puts0, pd_puts1, Co.toD, List.getElem?_cons_zero, List.getElem?_cons_succ, List.set_cons_zero, List.set_cons_succ, List.length_cons, List.length_nil, Option.map_some, Option.map_none, Option.bind_some, if_true, if_false, Bool.false_eq_true, true_and, and_true, Bool.not_true, Bool.not_false, decide_true, decide_false, reduceIte]
      rw [o_neW (x := y) (y := y) rfl rfl (by rw [hl.1]; rfl), hl.2]
      simp only [wO_some, wO_none, pd_slV1, pd_slV2, pd_slV3, pd_slD, pd_slL, pd_frz1, pd_frz2, pd_frzA0, pd_frzA1, pd_frzA2, pd_frzA3, pd_frzs0, pd_frzs1, pd_frzs2, pd_retV1, pd_retV2, pd_retV3, pd_oneV, pd_intV, pd_strV, pd_boolP, pd_truN, pd_truB, pd_truI, pd_lst1, pd_lst2, pd_lst3, pd_tup, pd_seq1, pd_seq2, pd_seq3, pd_seq4, pd_it1, pd_it2, pd_it3, pd_it4, pd_thaw0, pd_thaw1, pd_thaw2, pd_sets0, pd_sets1, pd_sets2, pd_setV1, pd_setV2, pd_put1, pd_put2, pd_puts0, pd_puts1, Co.toD, List.getElem?_cons_zero, List.getElem?_cons_succ, List.set_cons_zero, List.set_cons_succ, List.length_cons, List.length_nil, Option.map_some, Option.map_none, Option.bind_some, if_true, if_false, Bool.false_eq_true, true_and, and_true, Bool.not_true, Bool.not_false, decide_true, decide_false, reduceIte, w_nop]
      have hi : itemsD y = [] := by cases y <;> first | rfl | (cases hf; done)
      have := step [] hi (by simp)
      simpa using this
  · have h1 : ¬ ((at_ : Int) < (ys.length : Int)) := by omega
    simp only [h1, decide_false, wO_some, wO_none, pd_slV1, pd_slV2, pd_slV3, pd_slD, pd_slL, pd_frz1, pd_frz2, pd_frzA0, pd_frzA1, pd_frzA2, pd_frzA3, pd_frzs0, pd_frzs1, pd_frzs2, pd_retV1, pd_retV2, pd_retV3, pd_oneV, pd_intV, pd_strV, pd_boolP, pd_truN, pd_truB, pd_truI, pd_lst1, pd_lst2, pd_lst3, pd_tup, pd_seq1, pd_seq2, pd_seq3, pd_seq4, pd_it1, pd_it2, pd_it3, pd_it4, pd_thaw0, pd_thaw1, pd_thaw2, pd_sets0, pd_sets1, pd_sets2, pd_setV1, pd_setV2, pd_put1, pd_put2, pd_puts0, pd_puts1, Co.toD, List.getElem?_cons_zero, List.getElem?_cons_succ, List.set_cons_zero, List.set_cons_succ, List.length_cons, List.length_nil, Option.map_some, Option.map_none, Option.bind_some, if_true, if_false, Bool.false_eq_true, true_and, and_true, Bool.not_true, Bool.not_false, decide_true, decide_false, reduceIte, w_ret, w_C]
mutual
theorem eqv_self : ∀ {x : PyData}, plD x = true → PyData.eqv x x = true
  | .none, _ => by simp [PyData.eqv]
  | .bool _, _ => by simp [PyData.eqv]
  | .int _, _ => by simp [PyData.eqv]
  | .str _, _ => by simp [PyData.eqv]
  | .tuple xs, h => by rw [PyData.eqv]; exact eqv_selfs (by rw [plD] at h; exact h)
  | .list xs, h => by rw [PyData.eqv]; exact eqv_selfs (by rw [plD] at h; exact h)
  | .dict _, h => by rw [plD] at h; cases h
theorem eqv_selfs : ∀ {xs : List PyData}, plDs xs = true → PyData.eqvAll xs xs = true
  | [], _ => by simp [PyData.eqvAll]
  | x :: xs, h => by
    rw [plDs, Bool.and_eq_true] at h
    rw [PyData.eqvAll, eqv_self h.1, eqv_selfs h.2]
    rfl
end
theorem o_ne_self {x : PyData} {v w : PV} {Q : PV → Prop} (h1 : valP v = some x) (h2 : valP w = some x) (hp : plD x = true) (hs : SeqAt.shaped x = true) : wO (pNe v w) Q ↔ Q (.d (.bool false)) := by
  rw [o_neW h1 h2 (by rw [hs]; simp), eqv_self hp]
  rfl
theorem o_eq_self {x : PyData} {v w : PV} {Q : PV → Prop} (h1 : valP v = some x) (h2 : valP w = some x) (hp : plD x = true) (hs : SeqAt.shaped x = true) : wO (pEq v w) Q ↔ Q (.d (.bool true)) := by
  rw [o_eqW h1 h2 (by rw [hs]; simp), eqv_self hp]
end PD
set_option Elab.async false
set_option linter.all false
set_option maxRecDepth 100000
set_option maxHeartbeats 2000000
namespace K43
open PySem PySem.Spec PyProof.Rows L2 DL Hn
noncomputable section
def sbl : List ((Str × Str) × Bool) := [(("BadBytes", "BadBytes"), true)]
def lml : List Str := ["law"]
def tll : List (Str × Str) := [("law", lq "law")]
def d_CHECK : PyData := (.int 4)
def d_FACTOR : PyData := (.int 257)
def d_GROUP : PyData := (.int 7)
def d_HALF : PyData := (.int 128)
def d_MODULUS : PyData := (.int 4294967291)
abbrev hc__law_octets : List Hc := [⟨"BadBytes", some 1, hTupV "BadBytes" [.c (.str "bytes"), .f "index", .f "fault"]⟩]
def T__law_octets : Rs Wd → Rs Wd := caughtT (subOf sbl) "told" hc__law_octets
/-- _law_integer(number): 0=number 1=found -/
def b__law_integer : Sm :=
sSeq (sSet 1 (eN lstO (aN))) <|
sSeq (sWh (b2 gtO (eV 0) (eC (.d (.int 127))))
(sSeq (sDrop (eM appO (eV 1) (aC (e2 addO (eC (.d (.int 128))) (e2 modO (eN intO1 (aC (eV 0) aN)) (eC (.d (.int 128))))) aN))) <|
sSet 0 (e2 fdivO (eN intO1 (aC (eV 0) aN)) (eC (.d (.int 128)))))) <|
sRet (eN tupleO (aC (e2 addO (eV 1) (eN lstO (aC (eV 0) aN))) aN))
@[irreducible] def N__law_integer : Fn := runF 2 b__law_integer
/-- _law_check(octets): 0=octets 1=found 2=octet -/
def b__law_check : Sm :=
sSeq (sSet 1 (eC (.d (.int 1)))) <|
sSeq (sFor (iVal (eV 0)) (.name 2)
(sSet 1 (e2 modO (eN intO1 (aC (e2 addO (e2 addO (e2 mulO (eV 1) (eC (.d (.int 257)))) (eV 2)) (eC (.d (.int 1)))) aN)) (eC (.d (.int 4294967291)))))) <|
sRet (eV 1)
@[irreducible] def N__law_check : Fn := runF 3 b__law_check
/-- _law_sealed(octets): 0=octets 1=check 2=found 3=place -/
def b__law_sealed : Sm :=
sSeq (sPar [1, 2] (aC (eCall 1 N__law_check (aC (eV 0) aN)) (aC (eN lstO (aN)) aN))) <|
sSeq (sFor (iRan1 (aC (eC (.d (.int 4))) aN)) (.name 3)
(sSeq (sDrop (eM appO (eV 2) (aC (e2 modO (eN intO1 (aC (eV 1) aN)) (eC (.d (.int 256)))) aN))) <|
sSet 1 (e2 fdivO (eN intO1 (aC (eV 1) aN)) (eC (.d (.int 256)))))) <|
sRet (e2 addO (eN tupleO (aC (eV 0) aN)) (eN tupleO (aC (eRv (eV 2)) aN)))
@[irreducible] def N__law_sealed : Fn := runF 4 b__law_sealed
/-- integer_octets(number): 0=number 1=found -/
def b_integer_octets : Sm :=
sSeq (sSet 1 (eN lstO (aN))) <|
sSeq (sWh (b2 geO (eV 0) (eC (.d d_HALF)))
(sSeq (sDrop (eM appO (eV 1) (aC (e2 addO (eC (.d d_HALF)) (e2 andO (eV 0) (e2 subO (eC (.d d_HALF)) (eC (.d (.int 1)))))) aN))) <|
sAug 0 shrO (eC (.d d_GROUP)))) <|
sRet (eN tupO (aS (eV 1) (aC (eV 0) aN)))
@[irreducible] def N_integer_octets : Fn := runF 2 b_integer_octets
/-- bits_of(octet): 0=octet 1=at -/
def b_bits_of : Sm :=
sRet (eJoin (eC (.d (.str ""))) (eLc (iRan1 (aC (eC (.d d_GROUP)) aN)) (.name 1) (fun _ m => .ok true m) (eIf (bV (e2 andO (eV 0) (e2 shrO (e2 fdivO (eC (.d d_HALF)) (eC (.d (.int 2)))) (eV 1)))) (eC (.d (.str "1"))) (eC (.d (.str "0")))) [1]))
@[irreducible] def N_bits_of : Fn := runF 2 b_bits_of
/-- read_integer(octets, place): 0=octets 1=place 2=at 3=octet -/
def b_read_integer : Sm :=
sSeq (sSet 2 (eV 1)) <|
sSeq (sWh (bAnd (b2 ltO (eV 2) (eN lenO (aC (eV 0) aN))) (b2 geO (e2 ixO (eV 0) (eV 2)) (eC (.d d_HALF))))
(sAug 2 iaddO (eC (.d (.int 1))))) <|
sSeq (sIf (bOr (b2 eqO (eV 2) (eN lenO (aC (eV 0) aN))) (bAnd (b2 eqO (e2 ixO (eV 0) (eV 2)) (eC (.d (.int 0)))) (b2 gtO (eV 2) (eV 1))))
(sRaise "BadBytes" 2 [("index", 0), ("fault", 1)] (aC (eV 1) (aC (eC (.d (.str "integer"))) aN)))
(sNop)) <|
sRet (eN tupO (aC (eN intO2 (aC (eJoin (eC (.d (.str ""))) (eLc (iVal (eRv (eSl (eV 0) (oSome (eV 1)) (oSome (e2 addO (eV 2) (eC (.d (.int 1)))))))) (.name 3) (fun _ m => .ok true m) (eCall 1 N_bits_of (aC (eV 3) aN)) [3])) (aC (eC (.d (.int 2))) aN))) (aC (e2 addO (eV 2) (eC (.d (.int 1)))) aN)))
@[irreducible] def N_read_integer : Fn := runF 4 b_read_integer
/-- check_of(octets): 0=octets 1=found 2=octet -/
def b_check_of : Sm :=
sSeq (sSet 1 (eC (.d (.int 1)))) <|
sSeq (sFor (iVal (eV 0)) (.name 2)
(sSet 1 (e2 modO (e2 addO (e2 addO (e2 mulO (eV 1) (eC (.d d_FACTOR))) (eV 2)) (eC (.d (.int 1)))) (eC (.d d_MODULUS))))) <|
sRet (eV 1)
@[irreducible] def N_check_of : Fn := runF 3 b_check_of
/-- sealed(octets): 0=octets 1=check -/
def b_sealed : Sm :=
sSeq (sSet 1 (eCall 1 N_check_of (aC (eV 0) aN))) <|
sRet (eN tupO (aS (eV 0) (aC (e2 shrO (eV 1) (eC (.d (.int 24)))) (aC (e2 andO (e2 shrO (eV 1) (eC (.d (.int 16)))) (eC (.d (.int 255)))) (aC (e2 andO (e2 shrO (eV 1) (eC (.d (.int 8)))) (eC (.d (.int 255)))) (aC (e2 andO (eV 1) (eC (.d (.int 255)))) aN))))))
@[irreducible] def N_sealed : Fn := runF 2 b_sealed
/-- is_sealed(octets): 0=octets -/
def b_is_sealed : Sm :=
sRet (eAnd (e2 geO (eN lenO (aC (eV 0) aN)) (eC (.d d_CHECK))) (e2 eqO (eCall 1 N_sealed (aC (eSl (eV 0) oNone (oSome (e2 subO (eN lenO (aC (eV 0) aN)) (eC (.d d_CHECK))))) aN)) (eN tupleO (aC (eV 0) aN))))
@[irreducible] def N_is_sealed : Fn := runF 1 b_is_sealed
/-- law(script): 0=script 1=bag 2=turn 3=number 4=octets 5=ahead 6=told 7=row 8=whole 9=at 10=bent 11=place 12=one -/
def b_law : Sm :=
sSeq (sSet 1 (eCall 1 N__law_bag (aC (eV 0) aN))) <|
sSeq (sFor (iRan1 (aC (eC (.d (.int 10))) aN)) (.name 2)
(sSeq (sSet 3 (eCall 2 N__law_some (aC (eV 1) (aC (eN lstO (aC (eCall 2 N__law_take (aC (eV 1) (aC (eC (.d (.int 200))) aN))) (aC (eCall 2 N__law_take (aC (eV 1) (aC (e2 powO (eC (.d (.int 10))) (eC (.d (.int 9)))) aN))) (aC (eC (.d (.int 128))) (aC (eC (.d (.int 16384))) (aC (e2 addO (e2 powO (eC (.d (.int 10))) (eC (.d (.int 60)))) (eCall 2 N__law_take (aC (eV 1) (aC (e2 powO (eC (.d (.int 10))) (eC (.d (.int 9)))) aN)))) aN)))))) aN)))) <|
sSeq (sSet 4 (eCall 1 N__law_integer (aC (eV 3) aN))) <|
sSeq (sSet 5 (eN tupleO (aC (eLc (iRan1 (aC (eCall 2 N__law_take (aC (eV 1) (aC (eC (.d (.int 4))) aN))) aN)) (.name 12) (fun _ m => .ok true m) (eCall 2 N__law_take (aC (eV 1) (aC (eC (.d (.int 256))) aN))) [12]) aN))) <|
sSeq (sSet 6 (eN lstO (aC (eCall 1 N_integer_octets (aC (eV 3) aN)) (aC (eCall 2 N_read_integer (aC (e2 addO (e2 addO (eV 5) (eV 4)) (eN tupO (aC (eC (.d (.int 5))) aN))) (aC (eN lenO (aC (eV 5) aN)) aN))) aN)))) <|
sSeq (sIf (bNot (bV (eCall 2 N__law_alike (aC (eV 6) (aC (eN lstO (aC (eV 4) (aC (eN tupO (aC (eV 3) (aC (e2 addO (eN lenO (aC (eV 5) aN)) (eN lenO (aC (eV 4) aN))) aN))) aN))) aN)))))
(sRet (eC (.d (.bool false))))
(sNop)) <|
sSeq (sIf (b2 neO (eLam "law" (lq "law") T__law_octets (eCall 2 N_read_integer (aC (e2 addO (eV 5) (eSl (eV 4) oNone (oSome (e1 negO (eC (.d (.int 1))))))) (aC (eN lenO (aC (eV 5) aN)) aN)))) (eN tupO (aC (eC (.d (.str "bytes"))) (aC (eN lenO (aC (eV 5) aN)) (aC (eC (.d (.str "integer"))) aN)))))
(sRet (eC (.d (.bool false))))
(sNop)) <|
sSeq (sIf (b2 neO (eLam "law" (lq "law") T__law_octets (eCall 2 N_read_integer (aC (eN tupO (aC (eC (.d (.int 128))) (aC (eC (.d (.int 0))) aN))) (aC (eC (.d (.int 0))) aN)))) (eN tupO (aC (eC (.d (.str "bytes"))) (aC (eC (.d (.int 0))) (aC (eC (.d (.str "integer"))) aN)))))
(sRet (eC (.d (.bool false))))
(sNop)) <|
sSeq (sSet 7 (eN tupleO (aC (eLc (iRan1 (aC (eCall 2 N__law_take (aC (eV 1) (aC (eC (.d (.int 12))) aN))) aN)) (.name 12) (fun _ m => .ok true m) (eCall 2 N__law_take (aC (eV 1) (aC (eC (.d (.int 256))) aN))) [12]) aN))) <|
sSeq (sSet 8 (eCall 1 N__law_sealed (aC (eV 7) aN))) <|
sSeq (sIf (bNot (bV (eCall 2 N__law_alike (aC (eN lstO (aC (eCall 1 N_check_of (aC (eV 7) aN)) (aC (eCall 1 N_sealed (aC (eV 7) aN)) (aC (eCall 1 N_is_sealed (aC (eV 8) aN)) aN)))) (aC (eN lstO (aC (eCall 1 N__law_check (aC (eV 7) aN)) (aC (eV 8) (aC (eC (.d (.bool true))) aN)))) aN)))))
(sRet (eC (.d (.bool false))))
(sNop)) <|
sSeq (sSet 9 (eCall 2 N__law_take (aC (eV 1) (aC (eN lenO (aC (eV 8) aN)) aN)))) <|
sSeq (sSet 10 (eN listO (aC (eV 8) aN))) <|
sSeq (sFor (iRan2 (aC (eV 9) (aC (eN minO2 (aC (eN lenO (aC (eV 8) aN)) (aC (e2 addO (e2 addO (eV 9) (eC (.d (.int 1)))) (eCall 2 N__law_take (aC (eV 1) (aC (eC (.d (.int 3))) aN)))) aN))) aN))) (.name 11)
(sSub (eV 10) (eV 11) (eCall 2 N__law_take (aC (eV 1) (aC (eC (.d (.int 256))) aN))))) <|
sIf (b2 neO (eCall 1 N_is_sealed (aC (eN tupleO (aC (eV 10) aN)) aN)) (e2 eqO (eN tupleO (aC (eV 10) aN)) (eV 8)))
(sRet (eC (.d (.bool false))))
(sNop))) <|
sRet (eC (.d (.bool true)))
@[irreducible] def N_law : Fn := runF 13 b_law
end
end K43
set_option Elab.async false
set_option linter.all false
set_option maxRecDepth 100000
set_option maxHeartbeats 2000000
namespace K43
open PySem PySem.Spec PyProof.Rows L2 DL PD Hn
noncomputable section
/-- _law_integer(number): 0=number 1=found -/
def q__law_integer : Ps :=
pSeq (pSet 1 (pN pLst (paN))) <|
pSeq (pWh (b2P pGt (pV 0) (pC (.int 127)))
(pSeq (pApp 1 (paC (p2 pAdd (pC (.int 128)) (p2 pMod (pN pInt1 (paC (pV 0) paN)) (pC (.int 128)))) paN)) <|
pSetF 0 (p2 pFdiv (pN pInt1 (paC (pV 0) paN)) (pC (.int 128))))) <|
pRet (pN pTuple (paC (p2 pAdd (pV 1) (pN pLst (paC (pV 0) paN))) paN))
@[irreducible] def P__law_integer : PFn := runP 2 q__law_integer
/-- _law_check(octets): 0=octets 1=found 2=octet -/
def q__law_check : Ps :=
pSeq (pSetF 1 (pC (.int 1))) <|
pSeq (pFor (piV (pV 0)) (.name 2)
(pSetF 1 (p2 pMod (pN pInt1 (paC (p2 pAdd (p2 pAdd (p2 pMul (pV 1) (pC (.int 257))) (pV 2)) (pC (.int 1))) paN)) (pC (.int 4294967291))))) <|
pRet (pV 1)
@[irreducible] def P__law_check : PFn := runP 3 q__law_check
/-- _law_sealed(octets): 0=octets 1=check 2=found 3=place -/
def q__law_sealed : Ps :=
pSeq (pPar [1, 2] [false, true] (paC (pCall 1 P__law_check (paC (pV 0) paN)) (paC (pN pLst (paN)) paN))) <|
pSeq (pFor (piR1 (paC (pC (.int 4)) paN)) (.name 3)
(pSeq (pApp 2 (paC (p2 pMod (pN pInt1 (paC (pV 1) paN)) (pC (.int 256))) paN)) <|
pSetF 1 (p2 pFdiv (pN pInt1 (paC (pV 1) paN)) (pC (.int 256))))) <|
pRet (p2 pAdd (pN pTuple (paC (pV 0) paN)) (pN pTuple (paC (pRv (pV 2)) paN)))
@[irreducible] def P__law_sealed : PFn := runP 4 q__law_sealed
/-- integer_octets(number): 0=number 1=found -/
def q_integer_octets : Ps :=
pSeq (pSet 1 (pN pLst (paN))) <|
pSeq (pWh (b2P pGe (pV 0) (pC d_HALF))
(pSeq (pApp 1 (paC (p2 pAdd (pC d_HALF) (p2 pAnd (pV 0) (p2 pSub (pC d_HALF) (pC (.int 1))))) paN)) <|
pAug 0 pShr (pC d_GROUP))) <|
pRet (pN pTup (paS (pV 1) (paC (pV 0) paN)))
@[irreducible] def P_integer_octets : PFn := runP 2 q_integer_octets
/-- bits_of(octet): 0=octet 1=at -/
def q_bits_of : Ps :=
pRet (pJoin (pC (.str "")) (pLc (piR1 (paC (pC d_GROUP) paN)) (.name 1) (bTrueP) (pIf (bVP (p2 pAnd (pV 0) (p2 pShr (p2 pFdiv (pC d_HALF) (pC (.int 2))) (pV 1)))) (pC (.str "1")) (pC (.str "0"))) [1]))
@[irreducible] def P_bits_of : PFn := runP 2 q_bits_of
/-- read_integer(octets, place): 0=octets 1=place 2=at 3=octet -/
def q_read_integer : Ps :=
pSeq (pSetF 2 (pV 1)) <|
pSeq (pWh (bAndP (b2P pLt (pV 2) (pN pLen (paC (pV 0) paN))) (b2P pGe (p2 pIx (pV 0) (pV 2)) (pC d_HALF)))
(pAug 2 pIadd (pC (.int 1)))) <|
pSeq (pIfS (bOrP (b2P pEq (pV 2) (pN pLen (paC (pV 0) paN))) (bAndP (b2P pEq (p2 pIx (pV 0) (pV 2)) (pC (.int 0))) (b2P pGt (pV 2) (pV 1))))
(pRaise "BadBytes" 2 [("index", 0), ("fault", 1)] (paC (pV 1) (paC (pC (.str "integer")) paN)))
(pNop)) <|
pRet (pN pTup (paC (pN pInt2 (paC (pJoin (pC (.str "")) (pLc (piV (pRv (pSl (pV 0) (oSomeP (pV 1)) (oSomeP (p2 pAdd (pV 2) (pC (.int 1))))))) (.name 3) (bTrueP) (pCall 1 P_bits_of (paC (pV 3) paN)) [3])) (paC (pC (.int 2)) paN))) (paC (p2 pAdd (pV 2) (pC (.int 1))) paN)))
@[irreducible] def P_read_integer : PFn := runP 4 q_read_integer
def TP__law_octets : PR PV → PR PV := caughtP (subOf sbl) "told" [⟨"BadBytes", hTupP "BadBytes" [.c (.str "bytes"), .f "index", .f "fault"]⟩]
abbrev pc__law_octets : List PHc := [⟨"BadBytes", hTupP "BadBytes" [.c (.str "bytes"), .f "index", .f "fault"]⟩]
/-- check_of(octets): 0=octets 1=found 2=octet -/
def q_check_of : Ps :=
pSeq (pSetF 1 (pC (.int 1))) <|
pSeq (pFor (piV (pV 0)) (.name 2)
(pSetF 1 (p2 pMod (p2 pAdd (p2 pAdd (p2 pMul (pV 1) (pC d_FACTOR)) (pV 2)) (pC (.int 1))) (pC d_MODULUS)))) <|
pRet (pV 1)
@[irreducible] def P_check_of : PFn := runP 3 q_check_of
/-- sealed(octets): 0=octets 1=check -/
def q_sealed : Ps :=
pSeq (pSetF 1 (pCall 1 P_check_of (paC (pV 0) paN))) <|
pRet (pN pTup (paS (pV 0) (paC (p2 pShr (pV 1) (pC (.int 24))) (paC (p2 pAnd (p2 pShr (pV 1) (pC (.int 16))) (pC (.int 255))) (paC (p2 pAnd (p2 pShr (pV 1) (pC (.int 8))) (pC (.int 255))) (paC (p2 pAnd (pV 1) (pC (.int 255))) paN))))))
@[irreducible] def P_sealed : PFn := runP 2 q_sealed
/-- is_sealed(octets): 0=octets -/
def q_is_sealed : Ps :=
pRet (pAndE (p2 pGe (pN pLen (paC (pV 0) paN)) (pC d_CHECK)) (p2 pEq (pCall 1 P_sealed (paC (pSl (pV 0) oNoneP (oSomeP (p2 pSub (pN pLen (paC (pV 0) paN)) (pC d_CHECK)))) paN)) (pN pTuple (paC (pV 0) paN))))
@[irreducible] def P_is_sealed : PFn := runP 1 q_is_sealed
/-- law: 0=script 1=bag 2=turn 3=number 4=octets 5=ahead 6=told 7=row 8=whole 9=at 10=bent 11=place 12=one -/
def q_law : Ps :=
pSeq (pFor (piR1 (paC (pC (.int 10)) paN)) (.name 2)
(pSeq (pSetF 3 (pCall 2 P__law_some (paC (pV 1) (paC (pN pLst (paC (pCall 2 P__law_take (paC (pV 1) (paC (pC (.int 200)) paN))) (paC (pCall 2 P__law_take (paC (pV 1) (paC (p2 pPow (pC (.int 10)) (pC (.int 9))) paN))) (paC (pC (.int 128)) (paC (pC (.int 16384)) (paC (p2 pAdd (p2 pPow (pC (.int 10)) (pC (.int 60))) (pCall 2 P__law_take (paC (pV 1) (paC (p2 pPow (pC (.int 10)) (pC (.int 9))) paN)))) paN)))))) paN)))) <|
pSeq (pSetF 4 (pCall 1 P__law_integer (paC (pV 3) paN))) <|
pSeq (pSetF 5 (pN pTuple (paC (pLc (piR1 (paC (pCall 2 P__law_take (paC (pV 1) (paC (pC (.int 4)) paN))) paN)) (.name 12) (bTrueP) (pCall 2 P__law_take (paC (pV 1) (paC (pC (.int 256)) paN))) [12]) paN))) <|
pSeq (pSetF 6 (pN pLst (paC (pCall 1 P_integer_octets (paC (pV 3) paN)) (paC (pCall 2 P_read_integer (paC (p2 pAdd (p2 pAdd (pV 5) (pV 4)) (pN pTup (paC (pC (.int 5)) paN))) (paC (pN pLen (paC (pV 5) paN)) paN))) paN)))) <|
pSeq (pIfS (bNotP (bVP (pCall 2 P__law_alike (paC (pV 6) (paC (pN pLst (paC (pV 4) (paC (pN pTup (paC (pV 3) (paC (p2 pAdd (pN pLen (paC (pV 5) paN)) (pN pLen (paC (pV 4) paN))) paN))) paN))) paN)))))
(pRet (pC (.bool false)))
(pNop)) <|
pSeq (pIfS (b2P pNe (pLam TP__law_octets (pCall 2 P_read_integer (paC (p2 pAdd (pV 5) (pSl (pV 4) oNoneP (oSomeP (p1 pNeg (pC (.int 1)))))) (paC (pN pLen (paC (pV 5) paN)) paN)))) (pN pTup (paC (pC (.str "bytes")) (paC (pN pLen (paC (pV 5) paN)) (paC (pC (.str "integer")) paN)))))
(pRet (pC (.bool false)))
(pNop)) <|
pSeq (pIfS (b2P pNe (pLam TP__law_octets (pCall 2 P_read_integer (paC (pN pTup (paC (pC (.int 128)) (paC (pC (.int 0)) paN))) (paC (pC (.int 0)) paN)))) (pN pTup (paC (pC (.str "bytes")) (paC (pC (.int 0)) (paC (pC (.str "integer")) paN)))))
(pRet (pC (.bool false)))
(pNop)) <|
pSeq (pSetF 7 (pN pTuple (paC (pLc (piR1 (paC (pCall 2 P__law_take (paC (pV 1) (paC (pC (.int 12)) paN))) paN)) (.name 12) (bTrueP) (pCall 2 P__law_take (paC (pV 1) (paC (pC (.int 256)) paN))) [12]) paN))) <|
pSeq (pSetF 8 (pCall 1 P__law_sealed (paC (pV 7) paN))) <|
pSeq (pIfS (bNotP (bVP (pCall 2 P__law_alike (paC (pN pLst (paC (pCall 1 P_check_of (paC (pV 7) paN)) (paC (pCall 1 P_sealed (paC (pV 7) paN)) (paC (pCall 1 P_is_sealed (paC (pV 8) paN)) paN)))) (paC (pN pLst (paC (pCall 1 P__law_check (paC (pV 7) paN)) (paC (pV 8) (paC (pC (.bool true)) paN)))) paN)))))
(pRet (pC (.bool false)))
(pNop)) <|
pSeq (pSetF 9 (pCall 2 P__law_take (paC (pV 1) (paC (pN pLen (paC (pV 8) paN)) paN)))) <|
pSeq (pSet 10 (pN pList (paC (pV 8) paN))) <|
pSeq (pFor (piR2 (paC (pV 9) (paC (pN pMin2 (paC (pN pLen (paC (pV 8) paN)) (paC (p2 pAdd (p2 pAdd (pV 9) (pC (.int 1))) (pCall 2 P__law_take (paC (pV 1) (paC (pC (.int 3)) paN)))) paN))) paN))) (.name 11)
(pSubS 10 (pV 11) (pCall 2 P__law_take (paC (pV 1) (paC (pC (.int 256)) paN))))) <|
pIfS (b2P pNe (pCall 1 P_is_sealed (paC (pN pTuple (paC (pV 10) paN)) paN)) (p2 pEq (pN pTuple (paC (pV 10) paN)) (pV 8)))
(pRet (pC (.bool false)))
(pNop))) <|
pRet (pC (.bool true))
end
theorem tlm_law {tl : List (Str × Str)} (hl : ∀ p ∈ tll, p ∈ tl) : (("law" : Str), lq "law") ∈ tl := hl _ (List.mem_of_getElem? (i := 0) rfl)
theorem sf__law_integer {tl : List (Str × Str)} : SimF tl P__law_integer N__law_integer := by
  unfold P__law_integer N__law_integer
  exact sim_run ((sim_seq (sim_set (sim_N op_lst sim_aN)) <|
(sim_seq (sim_wh (sim_b2 op_gt sim_V (sim_C rfl))
(sim_seq (sim_app (sim_aC (sim_2 op_add (sim_C rfl) (sim_2 op_mod (sim_N op_int1 (sim_aC sim_V sim_aN)) (sim_C rfl))) sim_aN)) <|
(sim_setF (sim_2 op_fdiv (sim_N op_int1 (sim_aC sim_V sim_aN)) (sim_C rfl))))) <|
(sim_ret (sim_N op_tuple (sim_aC (sim_2 op_add sim_V (sim_N op_lst (sim_aC sim_V sim_aN))) sim_aN))))))
theorem sf__law_check {tl : List (Str × Str)} : SimF tl P__law_check N__law_check := by
  unfold P__law_check N__law_check
  exact sim_run ((sim_seq (sim_setF (sim_C rfl)) <|
(sim_seq (sim_for (sim_iV sim_V)
(sim_setF (sim_2 op_mod (sim_N op_int1 (sim_aC (sim_2 op_add (sim_2 op_add (sim_2 op_mul sim_V (sim_C rfl)) sim_V) (sim_C rfl)) sim_aN)) (sim_C rfl)))) <|
(sim_ret sim_V))))
theorem sf__law_sealed {tl : List (Str × Str)} : SimF tl P__law_sealed N__law_sealed := by
  unfold P__law_sealed N__law_sealed
  exact sim_run ((sim_seq (sim_par (sim_aC (sim_call (sf__law_check) (sim_aC sim_V sim_aN)) (sim_aC (sim_N op_lst sim_aN) sim_aN))) <|
(sim_seq (sim_for (sim_iR1 (sim_aC (sim_C rfl) sim_aN))
(sim_seq (sim_app (sim_aC (sim_2 op_mod (sim_N op_int1 (sim_aC sim_V sim_aN)) (sim_C rfl)) sim_aN)) <|
(sim_setF (sim_2 op_fdiv (sim_N op_int1 (sim_aC sim_V sim_aN)) (sim_C rfl))))) <|
(sim_ret (sim_2 op_add (sim_N op_tuple (sim_aC sim_V sim_aN)) (sim_N op_tuple (sim_aC (sim_Rv sim_V) sim_aN)))))))
theorem sf_integer_octets {tl : List (Str × Str)} : SimF tl P_integer_octets N_integer_octets := by
  unfold P_integer_octets N_integer_octets
  exact sim_run ((sim_seq (sim_set (sim_N op_lst sim_aN)) <|
(sim_seq (sim_wh (sim_b2 op_ge sim_V (sim_C rfl))
(sim_seq (sim_app (sim_aC (sim_2 op_add (sim_C rfl) (sim_2 op_and sim_V (sim_2 op_sub (sim_C rfl) (sim_C rfl)))) sim_aN)) <|
(sim_aug op_shr (sim_C rfl)))) <|
(sim_ret (sim_N op_tup (sim_aS sim_V (sim_aC sim_V sim_aN)))))))
theorem sf_bits_of {tl : List (Str × Str)} : SimF tl P_bits_of N_bits_of := by
  unfold P_bits_of N_bits_of
  exact sim_run ((sim_ret (sim_Join (sim_C rfl) (sim_Lc (sim_iR1 (sim_aC (sim_C rfl) sim_aN)) sim_bTrue (sim_If (sim_bV (sim_2 op_and sim_V (sim_2 op_shr (sim_2 op_fdiv (sim_C rfl) (sim_C rfl)) sim_V))) (sim_C rfl) (sim_C rfl))))))
theorem sf_read_integer {tl : List (Str × Str)} : SimF tl P_read_integer N_read_integer := by
  unfold P_read_integer N_read_integer
  exact sim_run ((sim_seq (sim_setF sim_V) <|
(sim_seq (sim_wh (sim_bAnd (sim_b2 op_lt sim_V (sim_N op_len (sim_aC sim_V sim_aN))) (sim_b2 op_ge (sim_2 op_ix sim_V sim_V) (sim_C rfl)))
(sim_aug op_iadd (sim_C rfl))) <|
(sim_seq (sim_if (sim_bOr (sim_b2 op_eq sim_V (sim_N op_len (sim_aC sim_V sim_aN))) (sim_bAnd (sim_b2 op_eq (sim_2 op_ix sim_V sim_V) (sim_C rfl)) (sim_b2 op_gt sim_V sim_V)))
(sim_raise (sim_aC sim_V (sim_aC (sim_C rfl) sim_aN)))
sim_nop) <|
(sim_ret (sim_N op_tup (sim_aC (sim_N op_int2 (sim_aC (sim_Join (sim_C rfl) (sim_Lc (sim_iV (sim_Rv (sim_Sl sim_V (sim_oS sim_V) (sim_oS (sim_2 op_add sim_V (sim_C rfl)))))) sim_bTrue (sim_call (sf_bits_of) (sim_aC sim_V sim_aN)))) (sim_aC (sim_C rfl) sim_aN))) (sim_aC (sim_2 op_add sim_V (sim_C rfl)) sim_aN))))))))
theorem simc__law_octets {tl : List (Str × Str)} : SimC tl pc__law_octets hc__law_octets := (simC_tup SimC.nil)
theorem sf_check_of {tl : List (Str × Str)} : SimF tl P_check_of N_check_of := by
  unfold P_check_of N_check_of
  exact sim_run ((sim_seq (sim_setF (sim_C rfl)) <|
(sim_seq (sim_for (sim_iV sim_V)
(sim_setF (sim_2 op_mod (sim_2 op_add (sim_2 op_add (sim_2 op_mul sim_V (sim_C rfl)) sim_V) (sim_C rfl)) (sim_C rfl)))) <|
(sim_ret sim_V))))
theorem sf_sealed {tl : List (Str × Str)} : SimF tl P_sealed N_sealed := by
  unfold P_sealed N_sealed
  exact sim_run ((sim_seq (sim_setF (sim_call (sf_check_of) (sim_aC sim_V sim_aN))) <|
(sim_ret (sim_N op_tup (sim_aS sim_V (sim_aC (sim_2 op_shr sim_V (sim_C rfl)) (sim_aC (sim_2 op_and (sim_2 op_shr sim_V (sim_C rfl)) (sim_C rfl)) (sim_aC (sim_2 op_and (sim_2 op_shr sim_V (sim_C rfl)) (sim_C rfl)) (sim_aC (sim_2 op_and sim_V (sim_C rfl)) sim_aN)))))))))
theorem sf_is_sealed {tl : List (Str × Str)} : SimF tl P_is_sealed N_is_sealed := by
  unfold P_is_sealed N_is_sealed
  exact sim_run ((sim_ret (sim_And (sim_2 op_ge (sim_N op_len (sim_aC sim_V sim_aN)) (sim_C rfl)) (sim_2 op_eq (sim_call (sf_sealed) (sim_aC (sim_Sl sim_V sim_oN (sim_oS (sim_2 op_sub (sim_N op_len (sim_aC sim_V sim_aN)) (sim_C rfl)))) sim_aN)) (sim_N op_tuple (sim_aC sim_V sim_aN))))))
theorem law_pd_of {ns : List Int} (hP : ∀ s, Good s → ∃ e' s', q_law (startLaw 13 1) s = .go (.rt (.d (.bool true))) e' s') : ∀ w m, Begin tll ns w m → ∃ m', N_law [w] m = .ok (.d (.bool true)) m' := by
  intro w m hb
  unfold N_law b_law
  refine law_pd hb (q := q_law) ?_ (by decide) (by decide) hP
  have hl : ∀ p ∈ tll, p ∈ tll := fun _ h => h
  exact (sim_seq (sim_for (sim_iR1 (sim_aC (sim_C rfl) sim_aN))
(sim_seq (sim_setF (sim_call (sf__law_some) (sim_aC sim_V (sim_aC (sim_N op_lst (sim_aC (sim_call (sf__law_take) (sim_aC sim_V (sim_aC (sim_C rfl) sim_aN))) (sim_aC (sim_call (sf__law_take) (sim_aC sim_V (sim_aC (sim_2 op_pow (sim_C rfl) (sim_C rfl)) sim_aN))) (sim_aC (sim_C rfl) (sim_aC (sim_C rfl) (sim_aC (sim_2 op_add (sim_2 op_pow (sim_C rfl) (sim_C rfl)) (sim_call (sf__law_take) (sim_aC sim_V (sim_aC (sim_2 op_pow (sim_C rfl) (sim_C rfl)) sim_aN)))) sim_aN)))))) sim_aN)))) <|
(sim_seq (sim_setF (sim_call (sf__law_integer) (sim_aC sim_V sim_aN))) <|
(sim_seq (sim_setF (sim_N op_tuple (sim_aC (sim_Lc (sim_iR1 (sim_aC (sim_call (sf__law_take) (sim_aC sim_V (sim_aC (sim_C rfl) sim_aN))) sim_aN)) sim_bTrue (sim_call (sf__law_take) (sim_aC sim_V (sim_aC (sim_C rfl) sim_aN)))) sim_aN))) <|
(sim_seq (sim_setF (sim_N op_lst (sim_aC (sim_call (sf_integer_octets) (sim_aC sim_V sim_aN)) (sim_aC (sim_call (sf_read_integer) (sim_aC (sim_2 op_add (sim_2 op_add sim_V sim_V) (sim_N op_tup (sim_aC (sim_C rfl) sim_aN))) (sim_aC (sim_N op_len (sim_aC sim_V sim_aN)) sim_aN))) sim_aN)))) <|
(sim_seq (sim_if (sim_bNot (sim_bV (sim_call (sf__law_alike) (sim_aC sim_V (sim_aC (sim_N op_lst (sim_aC sim_V (sim_aC (sim_N op_tup (sim_aC sim_V (sim_aC (sim_2 op_add (sim_N op_len (sim_aC sim_V sim_aN)) (sim_N op_len (sim_aC sim_V sim_aN))) sim_aN))) sim_aN))) sim_aN)))))
(sim_ret (sim_C rfl))
sim_nop) <|
(sim_seq (sim_if (sim_b2 op_ne (sim_lam simc__law_octets (sim_call (sf_read_integer) (sim_aC (sim_2 op_add sim_V (sim_Sl sim_V sim_oN (sim_oS (sim_1 op_neg (sim_C rfl))))) (sim_aC (sim_N op_len (sim_aC sim_V sim_aN)) sim_aN))) (tlm_law hl)) (sim_N op_tup (sim_aC (sim_C rfl) (sim_aC (sim_N op_len (sim_aC sim_V sim_aN)) (sim_aC (sim_C rfl) sim_aN)))))
(sim_ret (sim_C rfl))
sim_nop) <|
(sim_seq (sim_if (sim_b2 op_ne (sim_lam simc__law_octets (sim_call (sf_read_integer) (sim_aC (sim_N op_tup (sim_aC (sim_C rfl) (sim_aC (sim_C rfl) sim_aN))) (sim_aC (sim_C rfl) sim_aN))) (tlm_law hl)) (sim_N op_tup (sim_aC (sim_C rfl) (sim_aC (sim_C rfl) (sim_aC (sim_C rfl) sim_aN)))))
(sim_ret (sim_C rfl))
sim_nop) <|
(sim_seq (sim_setF (sim_N op_tuple (sim_aC (sim_Lc (sim_iR1 (sim_aC (sim_call (sf__law_take) (sim_aC sim_V (sim_aC (sim_C rfl) sim_aN))) sim_aN)) sim_bTrue (sim_call (sf__law_take) (sim_aC sim_V (sim_aC (sim_C rfl) sim_aN)))) sim_aN))) <|
(sim_seq (sim_setF (sim_call (sf__law_sealed) (sim_aC sim_V sim_aN))) <|
(sim_seq (sim_if (sim_bNot (sim_bV (sim_call (sf__law_alike) (sim_aC (sim_N op_lst (sim_aC (sim_call (sf_check_of) (sim_aC sim_V sim_aN)) (sim_aC (sim_call (sf_sealed) (sim_aC sim_V sim_aN)) (sim_aC (sim_call (sf_is_sealed) (sim_aC sim_V sim_aN)) sim_aN)))) (sim_aC (sim_N op_lst (sim_aC (sim_call (sf__law_check) (sim_aC sim_V sim_aN)) (sim_aC sim_V (sim_aC (sim_C rfl) sim_aN)))) sim_aN)))))
(sim_ret (sim_C rfl))
sim_nop) <|
(sim_seq (sim_setF (sim_call (sf__law_take) (sim_aC sim_V (sim_aC (sim_N op_len (sim_aC sim_V sim_aN)) sim_aN)))) <|
(sim_seq (sim_set (sim_N op_list (sim_aC sim_V sim_aN))) <|
(sim_seq (sim_for (sim_iR2 (sim_aC sim_V (sim_aC (sim_N op_min2 (sim_aC (sim_N op_len (sim_aC sim_V sim_aN)) (sim_aC (sim_2 op_add (sim_2 op_add sim_V (sim_C rfl)) (sim_call (sf__law_take) (sim_aC sim_V (sim_aC (sim_C rfl) sim_aN)))) sim_aN))) sim_aN)))
(sim_sub sim_V (sim_call (sf__law_take) (sim_aC sim_V (sim_aC (sim_C rfl) sim_aN))))) <|
(sim_if (sim_b2 op_ne (sim_call (sf_is_sealed) (sim_aC (sim_N op_tuple (sim_aC sim_V sim_aN)) sim_aN)) (sim_2 op_eq (sim_N op_tuple (sim_aC sim_V sim_aN)) sim_V))
(sim_ret (sim_C rfl))
sim_nop))))))))))))))) <|
(sim_ret (sim_C rfl)))
end K43
set_option Elab.async false
set_option linter.all false
set_option maxRecDepth 100000
set_option maxHeartbeats 4000000
namespace PD
open PySem PySem.Spec PyProof.Rows L2 DL Hn K43
/-- the octets of a number -/
def octs (n : Nat) : List Int := if h : n ≤ 127 then [(n : Int)] else (128 + (n % 128 : Nat) : Int) :: octs (n / 128)
termination_by n
decreasing_by omega
theorem octs_le {n : Nat} (h : n ≤ 127) : octs n = [(n : Int)] := by rw [octs, dif_pos h]
theorem octs_gt {n : Nat} (h : ¬ n ≤ 127) : octs n = (128 + (n % 128 : Nat) : Int) :: octs (n / 128) := by rw [octs, dif_neg h]
theorem octs_len : ∀ (k n : Nat), n < 128 ^ (k + 1) → (octs n).length ≤ k + 1
  | 0, n, h => by rw [octs_le (by simpa using Nat.lt_succ_iff.mp (by simpa using h))]; simp
  | k + 1, n, h => by
    by_cases hn : n ≤ 127
    · rw [octs_le hn]; simp
    · rw [octs_gt hn, List.length_cons]
      have := octs_len k (n / 128) (by rw [Nat.div_lt_iff_lt_mul (by omega)]; rw [Nat.pow_succ] at h; exact h)
      omega
theorem octs_pos (n : Nat) : 0 < (octs n).length := by
  by_cases hn : n ≤ 127
  · rw [octs_le hn]; simp
  · rw [octs_gt hn]; simp
theorem num_law {n : Nat} {s : Bg} (h : n < 128 ^ 90) : P__law_integer [.d (.int n)] s = .ok (.d (.tuple (zs (octs n)))) s := by
  unfold P__law_integer
  refine run_eq ?_
  have e : startP 2 [.d (.int (n : Int))] = [.d (.int (n : Int)), .no] := rfl
  rw [e]
  unfold q__law_integer
  rw [w_seq, w_set]
  simp only [w_seq, w_ifS, w_setF, w_set, w_b2, w_bV, w_bAnd, w_bOr, w_bNot, w_bTrue, w_1, w_2, w_N, w_C, w_V, w_aN, w_aC, w_aS, w_call, w_If, w_And, w_Or, w_Not, w_Ch, w_bCh, w_oN, w_oS, w_Sl, w_Rv, w_Join, w_Lc, w_iV, w_iR1, w_iR2, w_nop, w_drop, w_ret, w_retN, w_bk, w_ct, w_asg, w_aug, w_par, w_app, w_ext, w_subS, w_raise, w_for, wO_some, wO_none, pd_slV1, pd_slV2, pd_slV3, pd_slD, pd_slL, pd_frz1, pd_frz2, pd_frzA0, pd_frzA1, pd_frzA2, pd_frzA3, pd_frzs0, pd_frzs1, pd_frzs2, pd_retV1, pd_retV2, pd_retV3, pd_oneV, pd_intV, pd_strV, pd_boolP, pd_truN, pd_truB, pd_truI, pd_lst1, pd_lst2, pd_lst3, pd_tup, pd_seq1, pd_seq2, pd_seq3, pd_seq4, pd_it1, pd_it2, pd_it3, pd_it4, pd_thaw0, pd_thaw1, pd_thaw2, pd_sets0, pd_sets1, pd_sets2, pd_setV1, pd_setV2, pd_put1, pd_put2, pd_puts0, pd_puts1, Co.toD, List.getElem?_cons_zero, List.getElem?_cons_succ, List.set_cons_zero, List.set_cons_succ, List.length_cons, List.length_nil, Option.map_some, Option.map_none, Option.bind_some, if_true, if_false, Bool.false_eq_true, true_and, and_true, Bool.not_true, Bool.not_false, decide_true, decide_false, reduceIte, o_lst]
  refine ⟨by decide, ?_⟩
  have hl := octs_len 89 n h
  refine w_while (fun k e s1 => ∃ (x : Nat) (acc : List Int), e = [.d (.int (x : Int)), .own (.l (zs acc))] ∧ s1 = s ∧ acc ++ octs x = octs n ∧ k = x) ?_ n _ _ ⟨n, [], rfl, rfl, by simp, rfl⟩
  rintro k e s1 ⟨x, acc, rfl, rfl, hx, rfl⟩
  have hla : acc.length + (octs k).length ≤ 90 := by
    have := congrArg List.length hx
    rw [List.length_append] at this
    omega
  have hpos := octs_pos k
  simp only [w_seq, w_ifS, w_setF, w_set, w_b2, w_bV, w_bAnd, w_bOr, w_bNot, w_bTrue, w_1, w_2, w_N, w_C, w_V, w_aN, w_aC, w_aS, w_call, w_If, w_And, w_Or, w_Not, w_Ch, w_bCh, w_oN, w_oS, w_Sl, w_Rv, w_Join, w_Lc, w_iV, w_iR1, w_iR2, w_nop, w_drop, w_ret, w_retN, w_bk, w_ct, w_asg, w_aug, w_par, w_app, w_ext, w_subS, w_raise, w_for, wO_some, wO_none, pd_slV1, pd_slV2, pd_slV3, pd_slD, pd_slL, pd_frz1, pd_frz2, pd_frzA0, pd_frzA1, pd_frzA2, pd_frzA3, pd_frzs0, pd_frzs1, pd_frzs2, pd_retV1, pd_retV2, pd_retV3, pd_oneV, pd_intV, pd_strV, pd_boolP, pd_truN, pd_truB, pd_truI, pd_lst1, pd_lst2, pd_lst3, pd_tup, pd_seq1, pd_seq2, pd_seq3, pd_seq4, pd_it1, pd_it2, pd_it3, pd_it4, pd_thaw0, pd_thaw1, pd_thaw2, pd_sets0, pd_sets1, pd_sets2, pd_setV1, pd_setV2, pd_put1, pd_put2, pd_puts0, pd_puts1, Co.toD, List.getElem?_cons_zero, List.getElem?_cons_succ, List.set_cons_zero, List.set_cons_succ, List.length_cons, List.length_nil, Option.map_some, Option.map_none, Option.bind_some, if_true, if_false, Bool.false_eq_true, true_and, and_true, Bool.not_true, Bool.not_false, decide_true, decide_false, reduceIte, o_gt]
  by_cases hk : k ≤ 127
  · have h1 : ¬ ((127 : Int) < (k : Int)) := by omega
    simp only [h1, decide_false, wO_some, wO_none, pd_slV1, pd_slV2, pd_slV3, pd_slD, pd_slL, pd_frz1, pd_frz2, pd_frzA0, pd_frzA1, pd_frzA2, pd_frzA3, pd_frzs0, pd_frzs1, pd_frzs2, pd_retV1, pd_retV2, pd_retV3, pd_oneV, pd_intV, pd_strV, pd_boolP, pd_truN, pd_truB, pd_truI, pd_lst1, pd_lst2, pd_lst3, pd_tup, pd_seq1, pd_seq2, pd_seq3, pd_seq4, pd_it1, pd_it2, pd_it3, pd_it4, pd_thaw0, pd_thaw1, pd_thaw2, pd_sets0, pd_sets1, pd_sets2, pd_setV1, pd_setV2, pd_put1, pd_put2, pd_puts0, pd_puts1, Co.toD, List.getElem?_cons_zero, List.getElem?_cons_succ, List.set_cons_zero, List.set_cons_succ, List.length_cons, List.length_nil, Option.map_some, Option.map_none, Option.bind_some, if_true, if_false, Bool.false_eq_true, true_and, and_true, Bool.not_true, Bool.not_false, decide_true, decide_false, reduceIte, o_lst]
    refine ⟨by decide, ?_⟩
    rw [o_cat (xs := zs acc) (ys := [.int (k : Int)]) rfl rfl]
    refine ⟨by simp only [List.length_map, List.length_cons, List.length_nil]; show acc.length + 1 ≤ 16777216; omega, ?_⟩
    rw [o_tuple]
    simp only [wO_some, wO_none, pd_slV1, pd_slV2, pd_slV3, pd_slD, pd_slL, pd_frz1, pd_frz2, pd_frzA0, pd_frzA1, pd_frzA2, pd_frzA3, pd_frzs0, pd_frzs1, pd_frzs2, pd_retV1, pd_retV2, pd_retV3, pd_oneV, pd_intV, pd_strV, pd_boolP, pd_truN, pd_truB, pd_truI, pd_lst1, pd_lst2, pd_lst3, pd_tup, pd_seq1, pd_seq2, pd_seq3, pd_seq4, pd_it1, pd_it2, pd_it3, pd_it4, pd_thaw0, pd_thaw1, pd_thaw2, pd_sets0, pd_sets1, pd_sets2, pd_setV1, pd_setV2, pd_put1, pd_put2, pd_puts0, pd_puts1, Co.toD, List.getElem?_cons_zero, List.getElem?_cons_succ, List.set_cons_zero, List.set_cons_succ, List.length_cons, List.length_nil, Option.map_some, Option.map_none, Option.bind_some, if_true, if_false, Bool.false_eq_true, true_and, and_true, Bool.not_true, Bool.not_false, decide_true, decide_false, reduceIte]
    rw [octs_le hk] at hx
    rw [← hx]
    simp
  · have h1 : ((127 : Int) < (k : Int)) := by omega
    simp only [h1, decide_true, wO_some, wO_none, pd_slV1, pd_slV2, pd_slV3, pd_slD, pd_slL, pd_frz1, pd_frz2, pd_frzA0, pd_frzA1, pd_frzA2, pd_frzA3, pd_frzs0, pd_frzs1, pd_frzs2, pd_retV1, pd_retV2, pd_retV3, pd_oneV, pd_intV, pd_strV, pd_boolP, pd_truN, pd_truB, pd_truI, pd_lst1, pd_lst2, pd_lst3, pd_tup, pd_seq1, pd_seq2, pd_seq3, pd_seq4, pd_it1, pd_it2, pd_it3, pd_it4, pd_thaw0, pd_thaw1, pd_thaw2, pd_sets0, pd_sets1, pd_sets2, pd_setV1, pd_setV2, pd_put1, pd_put2, pd_puts0, pd_puts1, Co.toD, List.getElem?_cons_zero, List.getElem?_cons_succ, List.set_cons_zero, List.set_cons_succ, List.length_cons, List.length_nil, Option.map_some, Option.map_none, Option.bind_some, if_true, if_false, Bool.false_eq_true, true_and, and_true, Bool.not_true, Bool.not_false, decide_true, decide_false, reduceIte, o_int, o_mod, o_add, o_fdiv]
    refine ⟨by omega, by simp only [List.length_map]; show acc.length < 16777216; omega, by omega, ?_⟩
    refine ⟨k / 128, by omega, k / 128, acc ++ [(128 + (k % 128 : Nat) : Int)], ?_, ?_, rfl⟩
    · simp
    · rw [octs_gt hk] at hx
      rw [← hx]
      simp
theorem num_own {n : Nat} {s : Bg} (h : n < 128 ^ 90) : P_integer_octets [.d (.int n)] s = .ok (.d (.tuple (zs (octs n)))) s := by
  unfold P_integer_octets
  refine run_eq ?_
  have e : startP 2 [.d (.int (n : Int))] = [.d (.int (n : Int)), .no] := rfl
  rw [e]
  unfold q_integer_octets
  rw [w_seq, w_set]
  simp only [w_seq, w_ifS, w_setF, w_set, w_b2, w_bV, w_bAnd, w_bOr, w_bNot, w_bTrue, w_1, w_2, w_N, w_C, w_V, w_aN, w_aC, w_aS, w_call, w_If, w_And, w_Or, w_Not, w_Ch, w_bCh, w_oN, w_oS, w_Sl, w_Rv, w_Join, w_Lc, w_iV, w_iR1, w_iR2, w_nop, w_drop, w_ret, w_retN, w_bk, w_ct, w_asg, w_aug, w_par, w_app, w_ext, w_subS, w_raise, w_for, wO_some, wO_none, pd_slV1, pd_slV2, pd_slV3, pd_slD, pd_slL, pd_frz1, pd_frz2, pd_frzA0, pd_frzA1, pd_frzA2, pd_frzA3, pd_frzs0, pd_frzs1, pd_frzs2, pd_retV1, pd_retV2, pd_retV3, pd_oneV, pd_intV, pd_strV, pd_boolP, pd_truN, pd_truB, pd_truI, pd_lst1, pd_lst2, pd_lst3, pd_tup, pd_seq1, pd_seq2, pd_seq3, pd_seq4, pd_it1, pd_it2, pd_it3, pd_it4, pd_thaw0, pd_thaw1, pd_thaw2, pd_sets0, pd_sets1, pd_sets2, pd_setV1, pd_setV2, pd_put1, pd_put2, pd_puts0, pd_puts1, Co.toD, List.getElem?_cons_zero, List.getElem?_cons_succ, List.set_cons_zero, List.set_cons_succ, List.length_cons, List.length_nil, Option.map_some, Option.map_none, Option.bind_some, if_true, if_false, Bool.false_eq_true, true_and, and_true, Bool.not_true, Bool.not_false, decide_true, decide_false, reduceIte, o_lst]
  refine ⟨by decide, ?_⟩
  have hl := octs_len 89 n h
  refine w_while (fun k e s1 => ∃ (x : Nat) (acc : List Int), e = [.d (.int (x : Int)), .own (.l (zs acc))] ∧ s1 = s ∧ acc ++ octs x = octs n ∧ k = x) ?_ n _ _ ⟨n, [], rfl, rfl, by simp, rfl⟩
  rintro k e s1 ⟨x, acc, rfl, rfl, hx, rfl⟩
  have hla : acc.length + (octs k).length ≤ 90 := by
    have := congrArg List.length hx
    rw [List.length_append] at this
    omega
  have hpos := octs_pos k
  simp only [w_seq, w_ifS, w_setF, w_set, w_b2, w_bV, w_bAnd, w_bOr, w_bNot, w_bTrue, w_1, w_2, w_N, w_C, w_V, w_aN, w_aC, w_aS, w_call, w_If, w_And, w_Or, w_Not, w_Ch, w_bCh, w_oN, w_oS, w_Sl, w_Rv, w_Join, w_Lc, w_iV, w_iR1, w_iR2, w_nop, w_drop, w_ret, w_retN, w_bk, w_ct, w_asg, w_aug, w_par, w_app, w_ext, w_subS, w_raise, w_for, d_HALF, d_GROUP, wO_some, wO_none, pd_slV1, pd_slV2, pd_slV3, pd_slD, pd_slL, pd_frz1, pd_frz2, pd_frzA0, pd_frzA1, pd_frzA2, pd_frzA3, pd_frzs0, pd_frzs1, pd_frzs2, pd_retV1, pd_retV2, pd_retV3, pd_oneV, pd_intV, pd_strV, pd_boolP, pd_truN, pd_truB, pd_truI, pd_lst1, pd_lst2, pd_lst3, pd_tup, pd_seq1, pd_seq2, pd_seq3, pd_seq4, pd_it1, pd_it2, pd_it3, pd_it4, pd_thaw0, pd_thaw1, pd_thaw2, pd_sets0, pd_sets1, pd_sets2, pd_setV1, pd_setV2, pd_put1, pd_put2, pd_puts0, pd_puts1, Co.toD, List.getElem?_cons_zero, List.getElem?_cons_succ, List.set_cons_zero, List.set_cons_succ, List.length_cons, List.length_nil, Option.map_some, Option.map_none, Option.bind_some, if_true, if_false, Bool.false_eq_true, true_and, and_true, Bool.not_true, Bool.not_false, decide_true, decide_false, reduceIte, o_ge]
  by_cases hk : k ≤ 127
  · have h1 : ¬ ((128 : Int) ≤ (k : Int)) := by omega
    simp only [h1, decide_false, wO_some, wO_none, pd_slV1, pd_slV2, pd_slV3, pd_slD, pd_slL, pd_frz1, pd_frz2, pd_frzA0, pd_frzA1, pd_frzA2, pd_frzA3, pd_frzs0, pd_frzs1, pd_frzs2, pd_retV1, pd_retV2, pd_retV3, pd_oneV, pd_intV, pd_strV, pd_boolP, pd_truN, pd_truB, pd_truI, pd_lst1, pd_lst2, pd_lst3, pd_tup, pd_seq1, pd_seq2, pd_seq3, pd_seq4, pd_it1, pd_it2, pd_it3, pd_it4, pd_thaw0, pd_thaw1, pd_thaw2, pd_sets0, pd_sets1, pd_sets2, pd_setV1, pd_setV2, pd_put1, pd_put2, pd_puts0, pd_puts1, Co.toD, List.getElem?_cons_zero, List.getElem?_cons_succ, List.set_cons_zero, List.set_cons_succ, List.length_cons, List.length_nil, Option.map_some, Option.map_none, Option.bind_some, if_true, if_false, Bool.false_eq_true, true_and, and_true, Bool.not_true, Bool.not_false, decide_true, decide_false, reduceIte, o_tup]
    rw [frzs_app]
    simp only [wO_some, wO_none, pd_slV1, pd_slV2, pd_slV3, pd_slD, pd_slL, pd_frz1, pd_frz2, pd_frzA0, pd_frzA1, pd_frzA2, pd_frzA3, pd_frzs0, pd_frzs1, pd_frzs2, pd_retV1, pd_retV2, pd_retV3, pd_oneV, pd_intV, pd_strV, pd_boolP, pd_truN, pd_truB, pd_truI, pd_lst1, pd_lst2, pd_lst3, pd_tup, pd_seq1, pd_seq2, pd_seq3, pd_seq4, pd_it1, pd_it2, pd_it3, pd_it4, pd_thaw0, pd_thaw1, pd_thaw2, pd_sets0, pd_sets1, pd_sets2, pd_setV1, pd_setV2, pd_put1, pd_put2, pd_puts0, pd_puts1, Co.toD, List.getElem?_cons_zero, List.getElem?_cons_succ, List.set_cons_zero, List.set_cons_succ, List.length_cons, List.length_nil, Option.map_some, Option.map_none, Option.bind_some, if_true, if_false, Bool.false_eq_true, true_and, and_true, Bool.not_true, Bool.not_false, decide_true, decide_false, reduceIte]
    refine ⟨by simp only [List.length_append, List.length_map, List.length_cons, List.length_nil]; show acc.length + 1 ≤ 16777216; omega, ?_⟩
    rw [octs_le hk] at hx
    rw [← hx]
    simp
  · have h1 : ((128 : Int) ≤ (k : Int)) := by omega
    simp only [h1, decide_true, wO_some, wO_none, pd_slV1, pd_slV2, pd_slV3, pd_slD, pd_slL, pd_frz1, pd_frz2, pd_frzA0, pd_frzA1, pd_frzA2, pd_frzA3, pd_frzs0, pd_frzs1, pd_frzs2, pd_retV1, pd_retV2, pd_retV3, pd_oneV, pd_intV, pd_strV, pd_boolP, pd_truN, pd_truB, pd_truI, pd_lst1, pd_lst2, pd_lst3, pd_tup, pd_seq1, pd_seq2, pd_seq3, pd_seq4, pd_it1, pd_it2, pd_it3, pd_it4, pd_thaw0, pd_thaw1, pd_thaw2, pd_sets0, pd_sets1, pd_sets2, pd_setV1, pd_setV2, pd_put1, pd_put2, pd_puts0, pd_puts1, Co.toD, List.getElem?_cons_zero, List.getElem?_cons_succ, List.set_cons_zero, List.set_cons_succ, List.length_cons, List.length_nil, Option.map_some, Option.map_none, Option.bind_some, if_true, if_false, Bool.false_eq_true, true_and, and_true, Bool.not_true, Bool.not_false, decide_true, decide_false, reduceIte, o_sub, o_and, o_add, o_shr]
    refine ⟨by simp only [List.length_map]; show acc.length < 16777216; omega, by omega, ?_⟩
    refine ⟨k / 128, by omega, k / 128, acc ++ [(128 + (k % 128 : Nat) : Int)], ?_, ?_, rfl⟩
    · have e1 : Builtin.bitAnd (k : Int) (128 - 1) = (k : Int) % 128 := PyProof.Rows.bitAnd_m7 k
      rw [e1]
      simp
    · rw [octs_gt hk] at hx
      rw [← hx]
      simp
/-! checks -/
def chk (l : List Int) : Int := l.foldl (fun a o => (a * 257 + o + 1) % 4294967291) 1
def isOct (l : List Int) : Prop := ∀ o ∈ l, 0 ≤ o ∧ o < 256
theorem chk_from : ∀ (l : List Int) (a : Int), 0 ≤ a ∧ a < 4294967291 → 0 ≤ l.foldl (fun a o => (a * 257 + o + 1) % 4294967291) a ∧ l.foldl (fun a o => (a * 257 + o + 1) % 4294967291) a < 4294967291
  | [], a, h => h
  | o :: l, a, h => chk_from l _ (mod_in _ (by omega))
theorem chk_in (l : List Int) : 0 ≤ chk l ∧ chk l < 4294967291 := chk_from l 1 (by omega)
theorem chk_law {l : List Int} {s : Bg} : P__law_check [.d (.tuple (zs l))] s = .ok (.d (.int (chk l))) s := by
  unfold P__law_check
  refine run_eq ?_
  have e : startP 3 [.d (.tuple (zs l))] = [.d (.tuple (zs l)), .no, .no] := rfl
  rw [e]
  unfold q__law_check
  rw [w_seq, w_setF]
  simp only [w_seq, w_for, w_iV, w_V, w_C, wO_some, wO_none, pd_slV1, pd_slV2, pd_slV3, pd_slD, pd_slL, pd_frz1, pd_frz2, pd_frzA0, pd_frzA1, pd_frzA2, pd_frzA3, pd_frzs0, pd_frzs1, pd_frzs2, pd_retV1, pd_retV2, pd_retV3, pd_oneV, pd_intV, pd_strV, pd_boolP, pd_truN, pd_truB, pd_truI, pd_lst1, pd_lst2, pd_lst3, pd_tup, pd_seq1, pd_seq2, pd_seq3, pd_seq4, pd_it1, pd_it2, pd_it3, pd_it4, pd_thaw0, pd_thaw1, pd_thaw2, pd_sets0, pd_sets1, pd_sets2, pd_setV1, pd_setV2, pd_put1, pd_put2, pd_puts0, pd_puts1, Co.toD, List.getElem?_cons_zero, List.getElem?_cons_succ, List.set_cons_zero, List.set_cons_succ, List.length_cons, List.length_nil, Option.map_some, Option.map_none, Option.bind_some, if_true, if_false, Bool.false_eq_true, true_and, and_true, Bool.not_true, Bool.not_false, decide_true, decide_false, reduceIte]
  refine w_for0 (fun k e s1 => ∃ sl, e = [.d (.tuple (zs l)), .d (.int (chk (l.take k))), sl] ∧ s1 = s) ⟨.no, rfl, rfl⟩ (fun k e s1 x hx ⟨sl, he, hs⟩ => ?_) fun e s1 ⟨sl, he, hs⟩ => ?_
  · subst he hs
    rw [List.getElem?_map] at hx
    obtain ⟨o, ho, rfl⟩ := Option.map_eq_some_iff.mp hx
    simp only [w_seq, w_ifS, w_setF, w_set, w_b2, w_bV, w_bAnd, w_bOr, w_bNot, w_bTrue, w_1, w_2, w_N, w_C, w_V, w_aN, w_aC, w_aS, w_call, w_If, w_And, w_Or, w_Not, w_Ch, w_bCh, w_oN, w_oS, w_Sl, w_Rv, w_Join, w_Lc, w_iV, w_iR1, w_iR2, w_nop, w_drop, w_ret, w_retN, w_bk, w_ct, w_asg, w_aug, w_par, w_app, w_ext, w_subS, w_raise, w_for, wO_some, wO_none, pd_slV1, pd_slV2, pd_slV3, pd_slD, pd_slL, pd_frz1, pd_frz2, pd_frzA0, pd_frzA1, pd_frzA2, pd_frzA3, pd_frzs0, pd_frzs1, pd_frzs2, pd_retV1, pd_retV2, pd_retV3, pd_oneV, pd_intV, pd_strV, pd_boolP, pd_truN, pd_truB, pd_truI, pd_lst1, pd_lst2, pd_lst3, pd_tup, pd_seq1, pd_seq2, pd_seq3, pd_seq4, pd_it1, pd_it2, pd_it3, pd_it4, pd_thaw0, pd_thaw1, pd_thaw2, pd_sets0, pd_sets1, pd_sets2, pd_setV1, pd_setV2, pd_put1, pd_put2, pd_puts0, pd_puts1, Co.toD, List.getElem?_cons_zero, List.getElem?_cons_succ, List.set_cons_zero, List.set_cons_succ, List.length_cons, List.length_nil, Option.map_some, Option.map_none, Option.bind_some, if_true, if_false, Bool.false_eq_true, true_and, and_true, Bool.not_true, Bool.not_false, decide_true, decide_false, reduceIte, o_mul, o_add, o_int, o_mod]
    refine ⟨small_of (by omega), by omega, .d (.int o), ?_⟩
    have e1 : chk (l.take (k + 1)) = (chk (l.take k) * 257 + o + 1) % 4294967291 := by
      have : l.take (k + 1) = l.take k ++ [o] := by rw [List.take_succ, ho]; rfl
      rw [this]
      unfold chk
      rw [List.foldl_append]
      rfl
    rw [e1]
  · subst he hs
    simp only [w_seq, w_ifS, w_setF, w_set, w_b2, w_bV, w_bAnd, w_bOr, w_bNot, w_bTrue, w_1, w_2, w_N, w_C, w_V, w_aN, w_aC, w_aS, w_call, w_If, w_And, w_Or, w_Not, w_Ch, w_bCh, w_oN, w_oS, w_Sl, w_Rv, w_Join, w_Lc, w_iV, w_iR1, w_iR2, w_nop, w_drop, w_ret, w_retN, w_bk, w_ct, w_asg, w_aug, w_par, w_app, w_ext, w_subS, w_raise, w_for, wO_some, wO_none, pd_slV1, pd_slV2, pd_slV3, pd_slD, pd_slL, pd_frz1, pd_frz2, pd_frzA0, pd_frzA1, pd_frzA2, pd_frzA3, pd_frzs0, pd_frzs1, pd_frzs2, pd_retV1, pd_retV2, pd_retV3, pd_oneV, pd_intV, pd_strV, pd_boolP, pd_truN, pd_truB, pd_truI, pd_lst1, pd_lst2, pd_lst3, pd_tup, pd_seq1, pd_seq2, pd_seq3, pd_seq4, pd_it1, pd_it2, pd_it3, pd_it4, pd_thaw0, pd_thaw1, pd_thaw2, pd_sets0, pd_sets1, pd_sets2, pd_setV1, pd_setV2, pd_put1, pd_put2, pd_puts0, pd_puts1, Co.toD, List.getElem?_cons_zero, List.getElem?_cons_succ, List.set_cons_zero, List.set_cons_succ, List.length_cons, List.length_nil, Option.map_some, Option.map_none, Option.bind_some, if_true, if_false, Bool.false_eq_true, true_and, and_true, Bool.not_true, Bool.not_false, decide_true, decide_false, reduceIte, List.length_map, List.take_length]
theorem chk_own {l : List Int} {s : Bg} : P_check_of [.d (.tuple (zs l))] s = .ok (.d (.int (chk l))) s := by
  unfold P_check_of
  refine run_eq ?_
  have e : startP 3 [.d (.tuple (zs l))] = [.d (.tuple (zs l)), .no, .no] := rfl
  rw [e]
  unfold q_check_of
  rw [w_seq, w_setF]
  simp only [w_seq, w_for, w_iV, w_V, w_C, wO_some, wO_none, pd_slV1, pd_slV2, pd_slV3, pd_slD, pd_slL, pd_frz1, pd_frz2, pd_frzA0, pd_frzA1, pd_frzA2, pd_frzA3, pd_frzs0, pd_frzs1, pd_frzs2, pd_retV1, pd_retV2, pd_retV3, pd_oneV, pd_intV, pd_strV, pd_boolP, pd_truN, pd_truB, pd_truI, pd_lst1, pd_lst2, pd_lst3, pd_tup, pd_seq1, pd_seq2, pd_seq3, pd_seq4, pd_it1, pd_it2, pd_it3, pd_it4, pd_thaw0, pd_thaw1, pd_thaw2, pd_sets0, pd_sets1, pd_sets2, pd_setV1, pd_setV2, pd_put1, pd_put2, pd_puts0, pd_puts1, Co.toD, List.getElem?_cons_zero, List.getElem?_cons_succ, List.set_cons_zero, List.set_cons_succ, List.length_cons, List.length_nil, Option.map_some, Option.map_none, Option.bind_some, if_true, if_false, Bool.false_eq_true, true_and, and_true, Bool.not_true, Bool.not_false, decide_true, decide_false, reduceIte]
  refine w_for0 (fun k e s1 => ∃ sl, e = [.d (.tuple (zs l)), .d (.int (chk (l.take k))), sl] ∧ s1 = s) ⟨.no, rfl, rfl⟩ (fun k e s1 x hx ⟨sl, he, hs⟩ => ?_) fun e s1 ⟨sl, he, hs⟩ => ?_
  · subst he hs
    rw [List.getElem?_map] at hx
    obtain ⟨o, ho, rfl⟩ := Option.map_eq_some_iff.mp hx
    simp only [w_seq, w_ifS, w_setF, w_set, w_b2, w_bV, w_bAnd, w_bOr, w_bNot, w_bTrue, w_1, w_2, w_N, w_C, w_V, w_aN, w_aC, w_aS, w_call, w_If, w_And, w_Or, w_Not, w_Ch, w_bCh, w_oN, w_oS, w_Sl, w_Rv, w_Join, w_Lc, w_iV, w_iR1, w_iR2, w_nop, w_drop, w_ret, w_retN, w_bk, w_ct, w_asg, w_aug, w_par, w_app, w_ext, w_subS, w_raise, w_for, d_FACTOR, d_MODULUS, wO_some, wO_none, pd_slV1, pd_slV2, pd_slV3, pd_slD, pd_slL, pd_frz1, pd_frz2, pd_frzA0, pd_frzA1, pd_frzA2, pd_frzA3, pd_frzs0, pd_frzs1, pd_frzs2, pd_retV1, pd_retV2, pd_retV3, pd_oneV, pd_intV, pd_strV, pd_boolP, pd_truN, pd_truB, pd_truI, pd_lst1, pd_lst2, pd_lst3, pd_tup, pd_seq1, pd_seq2, pd_seq3, pd_seq4, pd_it1, pd_it2, pd_it3, pd_it4, pd_thaw0, pd_thaw1, pd_thaw2, pd_sets0, pd_sets1, pd_sets2, pd_setV1, pd_setV2, pd_put1, pd_put2, pd_puts0, pd_puts1, Co.toD, List.getElem?_cons_zero, List.getElem?_cons_succ, List.set_cons_zero, List.set_cons_succ, List.length_cons, List.length_nil, Option.map_some, Option.map_none, Option.bind_some, if_true, if_false, Bool.false_eq_true, true_and, and_true, Bool.not_true, Bool.not_false, decide_true, decide_false, reduceIte, o_mul, o_add, o_int, o_mod]
    refine ⟨small_of (by omega), by omega, .d (.int o), ?_⟩
    have e1 : chk (l.take (k + 1)) = (chk (l.take k) * 257 + o + 1) % 4294967291 := by
      have : l.take (k + 1) = l.take k ++ [o] := by rw [List.take_succ, ho]; rfl
      rw [this]
      unfold chk
      rw [List.foldl_append]
      rfl
    rw [e1]
  · subst he hs
    simp only [w_seq, w_ifS, w_setF, w_set, w_b2, w_bV, w_bAnd, w_bOr, w_bNot, w_bTrue, w_1, w_2, w_N, w_C, w_V, w_aN, w_aC, w_aS, w_call, w_If, w_And, w_Or, w_Not, w_Ch, w_bCh, w_oN, w_oS, w_Sl, w_Rv, w_Join, w_Lc, w_iV, w_iR1, w_iR2, w_nop, w_drop, w_ret, w_retN, w_bk, w_ct, w_asg, w_aug, w_par, w_app, w_ext, w_subS, w_raise, w_for, wO_some, wO_none, pd_slV1, pd_slV2, pd_slV3, pd_slD, pd_slL, pd_frz1, pd_frz2, pd_frzA0, pd_frzA1, pd_frzA2, pd_frzA3, pd_frzs0, pd_frzs1, pd_frzs2, pd_retV1, pd_retV2, pd_retV3, pd_oneV, pd_intV, pd_strV, pd_boolP, pd_truN, pd_truB, pd_truI, pd_lst1, pd_lst2, pd_lst3, pd_tup, pd_seq1, pd_seq2, pd_seq3, pd_seq4, pd_it1, pd_it2, pd_it3, pd_it4, pd_thaw0, pd_thaw1, pd_thaw2, pd_sets0, pd_sets1, pd_sets2, pd_setV1, pd_setV2, pd_put1, pd_put2, pd_puts0, pd_puts1, Co.toD, List.getElem?_cons_zero, List.getElem?_cons_succ, List.set_cons_zero, List.set_cons_succ, List.length_cons, List.length_nil, Option.map_some, Option.map_none, Option.bind_some, if_true, if_false, Bool.false_eq_true, true_and, and_true, Bool.not_true, Bool.not_false, decide_true, decide_false, reduceIte, List.length_map, List.take_length]
theorem zs_app (a b : List Int) : zs (a ++ b) = zs a ++ zs b := List.map_append ..
def bytes (c : Int) : List Int := [c / 256 / 256 / 256 % 256, c / 256 / 256 % 256, c / 256 % 256, c % 256]
def seal_ (l : List Int) : List Int := l ++ bytes (chk l)
theorem seal_law {l : List Int} {s : Bg} (hl : l.length ≤ 1000) : P__law_sealed [.d (.tuple (zs l))] s = .ok (.d (.tuple (zs (seal_ l)))) s := by
  unfold P__law_sealed
  refine run_eq ?_
  have e : startP 4 [.d (.tuple (zs l))] = [.d (.tuple (zs l)), .no, .no, .no] := rfl
  rw [e]
  unfold q__law_sealed
  simp only [w_seq, w_par, w_aC, w_call, w_V, w_aN, w_N, wO_some, wO_none, pd_slV1, pd_slV2, pd_slV3, pd_slD, pd_slL, pd_frz1, pd_frz2, pd_frzA0, pd_frzA1, pd_frzA2, pd_frzA3, pd_frzs0, pd_frzs1, pd_frzs2, pd_retV1, pd_retV2, pd_retV3, pd_oneV, pd_intV, pd_strV, pd_boolP, pd_truN, pd_truB, pd_truI, pd_lst1, pd_lst2, pd_lst3, pd_tup, pd_seq1, pd_seq2, pd_seq3, pd_seq4, pd_it1, pd_it2, pd_it3, pd_it4, pd_thaw0, pd_thaw1, pd_thaw2, pd_sets0, pd_sets1, pd_sets2, pd_setV1, pd_setV2, pd_put1, pd_put2, pd_puts0, pd_puts1, Co.toD, List.getElem?_cons_zero, List.getElem?_cons_succ, List.set_cons_zero, List.set_cons_succ, List.length_cons, List.length_nil, Option.map_some, Option.map_none, Option.bind_some, if_true, if_false, Bool.false_eq_true, true_and, and_true, Bool.not_true, Bool.not_false, decide_true, decide_false, reduceIte, wE_eq chk_law, o_lst]
  refine ⟨by decide, ?_⟩
  simp only [w_for, w_iR1, w_aC, w_C, w_aN, wO_ran1]
  refine ⟨by decide, trivial, ?_⟩
  have e4 : intsP' 0 (Int.toNat 4) = [.int 0, .int 1, .int 2, .int 3] := rfl
  rw [e4]
  simp only [w_forC, w_forN, w_seq, w_ifS, w_setF, w_set, w_b2, w_bV, w_bAnd, w_bOr, w_bNot, w_bTrue, w_1, w_2, w_N, w_C, w_V, w_aN, w_aC, w_aS, w_call, w_If, w_And, w_Or, w_Not, w_Ch, w_bCh, w_oN, w_oS, w_Sl, w_Rv, w_Join, w_Lc, w_iV, w_iR1, w_iR2, w_nop, w_drop, w_ret, w_retN, w_bk, w_ct, w_asg, w_aug, w_par, w_app, w_ext, w_subS, w_raise, w_for, wO_some, wO_none, pd_slV1, pd_slV2, pd_slV3, pd_slD, pd_slL, pd_frz1, pd_frz2, pd_frzA0, pd_frzA1, pd_frzA2, pd_frzA3, pd_frzs0, pd_frzs1, pd_frzs2, pd_retV1, pd_retV2, pd_retV3, pd_oneV, pd_intV, pd_strV, pd_boolP, pd_truN, pd_truB, pd_truI, pd_lst1, pd_lst2, pd_lst3, pd_tup, pd_seq1, pd_seq2, pd_seq3, pd_seq4, pd_it1, pd_it2, pd_it3, pd_it4, pd_thaw0, pd_thaw1, pd_thaw2, pd_sets0, pd_sets1, pd_sets2, pd_setV1, pd_setV2, pd_put1, pd_put2, pd_puts0, pd_puts1, Co.toD, List.getElem?_cons_zero, List.getElem?_cons_succ, List.set_cons_zero, List.set_cons_succ, List.length_cons, List.length_nil, Option.map_some, Option.map_none, Option.bind_some, if_true, if_false, Bool.false_eq_true, true_and, and_true, Bool.not_true, Bool.not_false, decide_true, decide_false, reduceIte, o_int, o_mod, o_fdiv, Int.reduceLT]
  simp only [List.nil_append, List.cons_append, o_tuple, o_rev3, wO_some, wO_none, pd_slV1, pd_slV2, pd_slV3, pd_slD, pd_slL, pd_frz1, pd_frz2, pd_frzA0, pd_frzA1, pd_frzA2, pd_frzA3, pd_frzs0, pd_frzs1, pd_frzs2, pd_retV1, pd_retV2, pd_retV3, pd_oneV, pd_intV, pd_strV, pd_boolP, pd_truN, pd_truB, pd_truI, pd_lst1, pd_lst2, pd_lst3, pd_tup, pd_seq1, pd_seq2, pd_seq3, pd_seq4, pd_it1, pd_it2, pd_it3, pd_it4, pd_thaw0, pd_thaw1, pd_thaw2, pd_sets0, pd_sets1, pd_sets2, pd_setV1, pd_setV2, pd_put1, pd_put2, pd_puts0, pd_puts1, Co.toD, List.getElem?_cons_zero, List.getElem?_cons_succ, List.set_cons_zero, List.set_cons_succ, List.length_cons, List.length_nil, Option.map_some, Option.map_none, Option.bind_some, if_true, if_false, Bool.false_eq_true, true_and, and_true, Bool.not_true, Bool.not_false, decide_true, decide_false, reduceIte, o_catT, List.reverse_cons, List.reverse_nil, List.nil_append, List.cons_append]
  refine ⟨by decide, by decide, by decide, by decide, ?_, ?_⟩
  · rw [List.length_map]; show l.length + 4 ≤ 16777216; omega
  · unfold seal_ bytes
    rw [zs_app]
    rfl
theorem seal_own {l : List Int} {s : Bg} (hl : l.length ≤ 1000) : P_sealed [.d (.tuple (zs l))] s = .ok (.d (.tuple (zs (seal_ l)))) s := by
  unfold P_sealed
  refine run_eq ?_
  have e : startP 2 [.d (.tuple (zs l))] = [.d (.tuple (zs l)), .no] := rfl
  rw [e]
  unfold q_sealed
  have hc := chk_in l
  simp only [w_seq, w_setF, w_aC, w_call, w_V, w_aN, wO_some, wO_none, pd_slV1, pd_slV2, pd_slV3, pd_slD, pd_slL, pd_frz1, pd_frz2, pd_frzA0, pd_frzA1, pd_frzA2, pd_frzA3, pd_frzs0, pd_frzs1, pd_frzs2, pd_retV1, pd_retV2, pd_retV3, pd_oneV, pd_intV, pd_strV, pd_boolP, pd_truN, pd_truB, pd_truI, pd_lst1, pd_lst2, pd_lst3, pd_tup, pd_seq1, pd_seq2, pd_seq3, pd_seq4, pd_it1, pd_it2, pd_it3, pd_it4, pd_thaw0, pd_thaw1, pd_thaw2, pd_sets0, pd_sets1, pd_sets2, pd_setV1, pd_setV2, pd_put1, pd_put2, pd_puts0, pd_puts1, Co.toD, List.getElem?_cons_zero, List.getElem?_cons_succ, List.set_cons_zero, List.set_cons_succ, List.length_cons, List.length_nil, Option.map_some, Option.map_none, Option.bind_some, if_true, if_false, Bool.false_eq_true, true_and, and_true, Bool.not_true, Bool.not_false, decide_true, decide_false, reduceIte, wE_eq chk_own]
  simp only [w_ret, w_N, w_aS, w_aC, w_aN, w_2, w_V, w_C, wO_some, wO_none, pd_slV1, pd_slV2, pd_slV3, pd_slD, pd_slL, pd_frz1, pd_frz2, pd_frzA0, pd_frzA1, pd_frzA2, pd_frzA3, pd_frzs0, pd_frzs1, pd_frzs2, pd_retV1, pd_retV2, pd_retV3, pd_oneV, pd_intV, pd_strV, pd_boolP, pd_truN, pd_truB, pd_truI, pd_lst1, pd_lst2, pd_lst3, pd_tup, pd_seq1, pd_seq2, pd_seq3, pd_seq4, pd_it1, pd_it2, pd_it3, pd_it4, pd_thaw0, pd_thaw1, pd_thaw2, pd_sets0, pd_sets1, pd_sets2, pd_setV1, pd_setV2, pd_put1, pd_put2, pd_puts0, pd_puts1, Co.toD, List.getElem?_cons_zero, List.getElem?_cons_succ, List.set_cons_zero, List.set_cons_succ, List.length_cons, List.length_nil, Option.map_some, Option.map_none, Option.bind_some, if_true, if_false, Bool.false_eq_true, true_and, and_true, Bool.not_true, Bool.not_false, decide_true, decide_false, reduceIte, o_shr, o_and, o_tup]
  refine ⟨by omega, by omega, by omega, ?_⟩
  rw [frzs_app]
  simp only [wO_some, wO_none, pd_slV1, pd_slV2, pd_slV3, pd_slD, pd_slL, pd_frz1, pd_frz2, pd_frzA0, pd_frzA1, pd_frzA2, pd_frzA3, pd_frzs0, pd_frzs1, pd_frzs2, pd_retV1, pd_retV2, pd_retV3, pd_oneV, pd_intV, pd_strV, pd_boolP, pd_truN, pd_truB, pd_truI, pd_lst1, pd_lst2, pd_lst3, pd_tup, pd_seq1, pd_seq2, pd_seq3, pd_seq4, pd_it1, pd_it2, pd_it3, pd_it4, pd_thaw0, pd_thaw1, pd_thaw2, pd_sets0, pd_sets1, pd_sets2, pd_setV1, pd_setV2, pd_put1, pd_put2, pd_puts0, pd_puts1, Co.toD, List.getElem?_cons_zero, List.getElem?_cons_succ, List.set_cons_zero, List.set_cons_succ, List.length_cons, List.length_nil, Option.map_some, Option.map_none, Option.bind_some, if_true, if_false, Bool.false_eq_true, true_and, and_true, Bool.not_true, Bool.not_false, decide_true, decide_false, reduceIte]
  refine ⟨?_, ?_⟩
  · rw [List.length_append, List.length_map]; show l.length + 4 ≤ 16777216; omega
  · unfold seal_ bytes
    rw [zs_app]
    have e1 : ∀ x : Int, Builtin.bitAnd x 255 = x % 256 := PyProof.Rows.bitAnd_m8
    simp only [e1]
    have h24 : chk l / 2 ^ Int.toNat 24 = chk l / 256 / 256 / 256 % 256 := by
      show chk l / 16777216 = _
      omega
    have h16 : chk l / 2 ^ Int.toNat 16 % 256 = chk l / 256 / 256 % 256 := by
      show chk l / 65536 % 256 = _
      omega
    have h8 : chk l / 2 ^ Int.toNat 8 % 256 = chk l / 256 % 256 := by
      show chk l / 256 % 256 = _
      rfl
    rw [h24, h16, h8]
    rfl
def isSl (b : List Int) : Bool := decide (4 ≤ b.length) && decide (seal_ (b.take (b.length - 4)) = b)
theorem cutL_to {α : Type} (xs : List α) (k : Nat) : cutL xs none (some (k : Int)) = xs.take k := by
  unfold cutL HT.sIx
  simp only [List.drop_zero, Nat.sub_zero]
  have h : ¬ ((k : Int) < 0) := by omega
  simp [h]
theorem isSl_own {b : List Int} {s : Bg} (hl : b.length ≤ 1000) : P_is_sealed [.d (.tuple (zs b))] s = .ok (.d (.bool (isSl b))) s := by
  unfold P_is_sealed
  refine run_eq ?_
  have e : startP 1 [.d (.tuple (zs b))] = [.d (.tuple (zs b))] := rfl
  rw [e]
  unfold q_is_sealed
  simp only [w_ret, w_And, w_2, w_N, w_aC, w_aN, w_V, w_C, d_CHECK, wO_some, wO_none, pd_slV1, pd_slV2, pd_slV3, pd_slD, pd_slL, pd_frz1, pd_frz2, pd_frzA0, pd_frzA1, pd_frzA2, pd_frzA3, pd_frzs0, pd_frzs1, pd_frzs2, pd_retV1, pd_retV2, pd_retV3, pd_oneV, pd_intV, pd_strV, pd_boolP, pd_truN, pd_truB, pd_truI, pd_lst1, pd_lst2, pd_lst3, pd_tup, pd_seq1, pd_seq2, pd_seq3, pd_seq4, pd_it1, pd_it2, pd_it3, pd_it4, pd_thaw0, pd_thaw1, pd_thaw2, pd_sets0, pd_sets1, pd_sets2, pd_setV1, pd_setV2, pd_put1, pd_put2, pd_puts0, pd_puts1, Co.toD, List.getElem?_cons_zero, List.getElem?_cons_succ, List.set_cons_zero, List.set_cons_succ, List.length_cons, List.length_nil, Option.map_some, Option.map_none, Option.bind_some, if_true, if_false, Bool.false_eq_true, true_and, and_true, Bool.not_true, Bool.not_false, decide_true, decide_false, reduceIte, o_lenT, o_ge, List.length_map]
  by_cases h : 4 ≤ b.length
  · have h1 : (4 : Int) ≤ (b.length : Int) := by omega
    have e1 : ((b.length : Int) - 4) = ((b.length - 4 : Nat) : Int) := by omega
    simp only [h1, decide_true, wO_some, wO_none, pd_slV1, pd_slV2, pd_slV3, pd_slD, pd_slL, pd_frz1, pd_frz2, pd_frzA0, pd_frzA1, pd_frzA2, pd_frzA3, pd_frzs0, pd_frzs1, pd_frzs2, pd_retV1, pd_retV2, pd_retV3, pd_oneV, pd_intV, pd_strV, pd_boolP, pd_truN, pd_truB, pd_truI, pd_lst1, pd_lst2, pd_lst3, pd_tup, pd_seq1, pd_seq2, pd_seq3, pd_seq4, pd_it1, pd_it2, pd_it3, pd_it4, pd_thaw0, pd_thaw1, pd_thaw2, pd_sets0, pd_sets1, pd_sets2, pd_setV1, pd_setV2, pd_put1, pd_put2, pd_puts0, pd_puts1, Co.toD, List.getElem?_cons_zero, List.getElem?_cons_succ, List.set_cons_zero, List.set_cons_succ, List.length_cons, List.length_nil, Option.map_some, Option.map_none, Option.bind_some, if_true, if_false, Bool.false_eq_true, true_and, and_true, Bool.not_true, Bool.not_false, decide_true, decide_false, reduceIte, w_call, w_aC, w_aN, w_Sl, w_oN, w_oS, w_2, w_N, w_V, w_C, o_lenT, o_sub, o_cutT, e1, cutL_to, List.length_map]
    have e2 : (zs b).take (b.length - 4) = zs (b.take (b.length - 4)) := (List.map_take ..).symm
    rw [e2]
    simp only [wE_eq (seal_own (l := b.take (b.length - 4)) (s := s) (by rw [List.length_take]; omega)), o_tuple, wO_some, wO_none, pd_slV1, pd_slV2, pd_slV3, pd_slD, pd_slL, pd_frz1, pd_frz2, pd_frzA0, pd_frzA1, pd_frzA2, pd_frzA3, pd_frzs0, pd_frzs1, pd_frzs2, pd_retV1, pd_retV2, pd_retV3, pd_oneV, pd_intV, pd_strV, pd_boolP, pd_truN, pd_truB, pd_truI, pd_lst1, pd_lst2, pd_lst3, pd_tup, pd_seq1, pd_seq2, pd_seq3, pd_seq4, pd_it1, pd_it2, pd_it3, pd_it4, pd_thaw0, pd_thaw1, pd_thaw2, pd_sets0, pd_sets1, pd_sets2, pd_setV1, pd_setV2, pd_put1, pd_put2, pd_puts0, pd_puts1, Co.toD, List.getElem?_cons_zero, List.getElem?_cons_succ, List.set_cons_zero, List.set_cons_succ, List.length_cons, List.length_nil, Option.map_some, Option.map_none, Option.bind_some, if_true, if_false, Bool.false_eq_true, true_and, and_true, Bool.not_true, Bool.not_false, decide_true, decide_false, reduceIte, o_eqZ]
    simp [isSl, h]
  · have h1 : ¬ (4 : Int) ≤ (b.length : Int) := by omega
    simp only [h1, decide_false, wO_some, wO_none, pd_slV1, pd_slV2, pd_slV3, pd_slD, pd_slL, pd_frz1, pd_frz2, pd_frzA0, pd_frzA1, pd_frzA2, pd_frzA3, pd_frzs0, pd_frzs1, pd_frzs2, pd_retV1, pd_retV2, pd_retV3, pd_oneV, pd_intV, pd_strV, pd_boolP, pd_truN, pd_truB, pd_truI, pd_lst1, pd_lst2, pd_lst3, pd_tup, pd_seq1, pd_seq2, pd_seq3, pd_seq4, pd_it1, pd_it2, pd_it3, pd_it4, pd_thaw0, pd_thaw1, pd_thaw2, pd_sets0, pd_sets1, pd_sets2, pd_setV1, pd_setV2, pd_put1, pd_put2, pd_puts0, pd_puts1, Co.toD, List.getElem?_cons_zero, List.getElem?_cons_succ, List.set_cons_zero, List.set_cons_succ, List.length_cons, List.length_nil, Option.map_some, Option.map_none, Option.bind_some, if_true, if_false, Bool.false_eq_true, true_and, and_true, Bool.not_true, Bool.not_false, decide_true, decide_false, reduceIte]
    simp [isSl, h]
/-! what is bent within three places is not sealed -/
theorem step_inj {a b o : Int} (ha : 0 ≤ a ∧ a < 4294967291) (hb : 0 ≤ b ∧ b < 4294967291) (h : (a * 257 + o + 1) % 4294967291 = (b * 257 + o + 1) % 4294967291) : a = b := by
  have h1 : ((a * 257 + o + 1) - (b * 257 + o + 1)) % 4294967291 = 0 := Int.emod_eq_emod_iff_emod_sub_eq_zero.mp h
  omega
theorem fold_inj : ∀ (w : List Int) {a b : Int}, 0 ≤ a ∧ a < 4294967291 → 0 ≤ b ∧ b < 4294967291 → w.foldl (fun a o => (a * 257 + o + 1) % 4294967291) a = w.foldl (fun a o => (a * 257 + o + 1) % 4294967291) b → a = b
  | [], a, b, _, _, h => h
  | o :: w, a, b, ha, hb, h => step_inj ha hb (fold_inj w (mod_in _ (by omega)) (mod_in _ (by omega)) h)
theorem bytes_inj {a b : Int} (ha : 0 ≤ a ∧ a < 4294967291) (hb : 0 ≤ b ∧ b < 4294967291) (h : bytes a = bytes b) : a = b := by
  unfold bytes at h
  simp only [List.cons.injEq, and_true] at h
  omega
theorem chk_app (u w : List Int) : chk (u ++ w) = w.foldl (fun a o => (a * 257 + o + 1) % 4294967291) (chk u) := by
  unfold chk
  rw [List.foldl_append]
theorem modK (x : Int) : ∃ k, x % 4294967291 = x - 4294967291 * k := ⟨x / 4294967291, by omega⟩
theorem near3 {c p q r p' q' r' : Int} (a1 : 0 ≤ p ∧ p < 256) (a2 : 0 ≤ q ∧ q < 256) (a3 : 0 ≤ r ∧ r < 256) (b1 : 0 ≤ p' ∧ p' < 256) (b2 : 0 ≤ q' ∧ q' < 256) (b3 : 0 ≤ r' ∧ r' < 256)
    (e : (((c * 257 + p + 1) % 4294967291 * 257 + q + 1) % 4294967291 * 257 + r + 1) % 4294967291 = (((c * 257 + p' + 1) % 4294967291 * 257 + q' + 1) % 4294967291 * 257 + r' + 1) % 4294967291) : p = p' ∧ q = q' ∧ r = r' := by
  obtain ⟨k1, h1⟩ := modK (c * 257 + p + 1)
  rw [h1] at e
  obtain ⟨k2, h2⟩ := modK ((c * 257 + p + 1 - 4294967291 * k1) * 257 + q + 1)
  rw [h2] at e
  obtain ⟨k3, h3⟩ := modK (((c * 257 + p + 1 - 4294967291 * k1) * 257 + q + 1 - 4294967291 * k2) * 257 + r + 1)
  rw [h3] at e
  obtain ⟨l1, g1⟩ := modK (c * 257 + p' + 1)
  rw [g1] at e
  obtain ⟨l2, g2⟩ := modK ((c * 257 + p' + 1 - 4294967291 * l1) * 257 + q' + 1)
  rw [g2] at e
  obtain ⟨l3, g3⟩ := modK (((c * 257 + p' + 1 - 4294967291 * l1) * 257 + q' + 1 - 4294967291 * l2) * 257 + r' + 1)
  rw [g3] at e
  clear h1 h2 h3 g1 g2 g3
  obtain ⟨K, hK⟩ : ∃ K : Int, K = (k1 - l1) * 66049 + (k2 - l2) * 257 + (k3 - l3) := ⟨_, rfl⟩
  have e2 : (p - p') * 66049 + (q - q') * 257 + (r - r') = 4294967291 * K := by rw [hK]; omega
  clear e hK
  have : K = 0 := by omega
  subst this
  omega
theorem low16 {x y : Int} (v2 : x / 256 % 256 = y / 256 % 256) (v3 : x % 256 = y % 256) : ∃ e, x - y = 65536 * e := ⟨x / 65536 - y / 65536, by omega⟩
theorem near1 {c p p' x y : Int} (a1 : 0 ≤ p ∧ p < 256) (b1 : 0 ≤ p' ∧ p' < 256) (cx : 0 ≤ x ∧ x < 4294967291) (cy : 0 ≤ y ∧ y < 4294967291) (c1 : x = (c * 257 + p + 1) % 4294967291) (c2 : y = (c * 257 + p' + 1) % 4294967291) (v2 : x / 256 % 256 = y / 256 % 256) (v3 : x % 256 = y % 256) : p = p' := by
  obtain ⟨k1, h1⟩ := modK (c * 257 + p + 1)
  obtain ⟨l1, g1⟩ := modK (c * 257 + p' + 1)
  rw [h1] at c1
  rw [g1] at c2
  obtain ⟨e, he⟩ := low16 v2 v3
  clear h1 g1 v2 v3
  obtain ⟨K, hK⟩ : ∃ K : Int, K = k1 - l1 := ⟨_, rfl⟩
  have e2 : x - y = (p - p') - 4294967291 * K := by rw [hK, c1, c2]; omega
  clear c1 c2 hK
  have : K = 0 ∨ K = 1 ∨ K = -1 := by omega
  rcases this with h | h | h <;> subst h <;> omega
theorem near2 {c p q p' q' x y : Int} (a1 : 0 ≤ p ∧ p < 256) (a2 : 0 ≤ q ∧ q < 256) (b1 : 0 ≤ p' ∧ p' < 256) (b2 : 0 ≤ q' ∧ q' < 256) (cx : 0 ≤ x ∧ x < 4294967291) (cy : 0 ≤ y ∧ y < 4294967291)
    (c1 : x = ((c * 257 + p + 1) % 4294967291 * 257 + q + 1) % 4294967291) (c2 : y = ((c * 257 + p' + 1) % 4294967291 * 257 + q' + 1) % 4294967291) (v1 : x / 256 / 256 % 256 = y / 256 / 256 % 256) (v2 : x / 256 % 256 = y / 256 % 256) (v3 : x % 256 = y % 256) : p = p' ∧ q = q' := by
  obtain ⟨k1, h1⟩ := modK (c * 257 + p + 1)
  obtain ⟨l1, g1⟩ := modK (c * 257 + p' + 1)
  rw [h1] at c1
  rw [g1] at c2
  obtain ⟨k2, h2⟩ := modK ((c * 257 + p + 1 - 4294967291 * k1) * 257 + q + 1)
  obtain ⟨l2, g2⟩ := modK ((c * 257 + p' + 1 - 4294967291 * l1) * 257 + q' + 1)
  rw [h2] at c1
  rw [g2] at c2
  obtain ⟨e, he⟩ : ∃ e, x - y = 16777216 * e := ⟨x / 16777216 - y / 16777216, by omega⟩
  clear h1 g1 h2 g2 v1 v2 v3
  obtain ⟨K, hK⟩ : ∃ K : Int, K = (k1 - l1) * 257 + (k2 - l2) := ⟨_, rfl⟩
  have e2 : x - y = (p - p') * 257 + (q - q') - 4294967291 * K := by rw [hK, c1, c2]; omega
  clear c1 c2 hK
  have : K = 0 ∨ K = 1 ∨ K = -1 := by omega
  rcases this with h | h | h
  · subst h
    have : e = 0 := by omega
    subst this
    omega
  · subst h; omega
  · subst h; omega
/-- sealed ones that differ within three neighbouring places only are the same -/
theorem near {x row y : List Int} {k : Nat} (hx : isOct x) (hr : isOct row) (hl : x.length = row.length) (hy : y = bytes (chk x))
    (h : ∀ i, i < k ∨ k + 3 ≤ i → (x ++ y)[i]? = (row ++ bytes (chk row))[i]?) : x = row := by
  have cx := chk_in x
  have cr := chk_in row
  -- the row's own places
  have hin : ∀ i, i < row.length → (i < k ∨ k + 3 ≤ i) → x[i]? = row[i]? := fun i hi hk => by
    have := h i hk
    rwa [List.getElem?_append_left (by omega), List.getElem?_append_left (by omega)] at this
  have hout : ∀ j, (row.length + j < k ∨ k + 3 ≤ row.length + j) → (bytes (chk x))[j]? = (bytes (chk row))[j]? := fun j hk => by
    have := h (row.length + j) hk
    rw [List.getElem?_append_right (by omega), List.getElem?_append_right (by omega), hy] at this
    simpa [hl] using this
  have pre : x.take k = row.take k := List.ext_getElem? fun i => by
    by_cases hi : i < k
    · rw [List.getElem?_take, List.getElem?_take, if_pos hi, if_pos hi]
      by_cases h2 : i < row.length
      · exact hin i h2 (.inl hi)
      · rw [List.getElem?_eq_none (by omega), List.getElem?_eq_none (by omega)]
    · rw [List.getElem?_take, List.getElem?_take, if_neg hi, if_neg hi]
  have post : x.drop (k + 3) = row.drop (k + 3) := List.ext_getElem? fun i => by
    rw [List.getElem?_drop, List.getElem?_drop]
    by_cases h2 : k + 3 + i < row.length
    · exact hin _ h2 (.inr (by omega))
    · rw [List.getElem?_eq_none (by omega), List.getElem?_eq_none (by omega)]
  have octAt : ∀ {l : List Int} {i : Nat} {o : Int}, isOct l → l[i]? = some o → 0 ≤ o ∧ o < 256 := fun hl h => hl _ (List.mem_of_getElem? h)
  by_cases hk : row.length ≤ k
  · rw [List.take_of_length_le (by omega), List.take_of_length_le (by omega)] at pre
    exact pre
  · -- the places within
    have mid : ∀ (l : List Int), l = l.take k ++ ((l.drop k).take 3 ++ l.drop (k + 3)) := fun l => by
      rw [← List.drop_drop, List.take_append_drop, List.take_append_drop]
    by_cases h3 : k + 3 ≤ row.length
    · have e : chk x = chk row := by
        refine bytes_inj cx cr (List.ext_getElem? fun j => ?_)
        exact hout j (.inr (by omega))
      obtain ⟨p, q, r, e1⟩ : ∃ p q r, (x.drop k).take 3 = [p, q, r] := by
        have : ((x.drop k).take 3).length = 3 := by rw [List.length_take, List.length_drop]; omega
        match (x.drop k).take 3, this with
        | [p, q, r], _ => exact ⟨p, q, r, rfl⟩
      obtain ⟨p', q', r', e2⟩ : ∃ p q r, (row.drop k).take 3 = [p, q, r] := by
        have : ((row.drop k).take 3).length = 3 := by rw [List.length_take, List.length_drop]; omega
        match (row.drop k).take 3, this with
        | [p, q, r], _ => exact ⟨p, q, r, rfl⟩
      have ox : ∀ o ∈ [p, q, r], 0 ≤ o ∧ o < 256 := fun o ho => hx o (List.mem_of_mem_drop (List.mem_of_mem_take (by rw [e1]; exact ho)))
      have or' : ∀ o ∈ [p', q', r'], 0 ≤ o ∧ o < 256 := fun o ho => hr o (List.mem_of_mem_drop (List.mem_of_mem_take (by rw [e2]; exact ho)))
      have e3 := e
      rw [mid x, mid row, e1, e2, pre, post, chk_app, chk_app, List.foldl_append, List.foldl_append] at e3
      have cu := chk_in (row.take k)
      have e4 := fold_inj _ (chk_from [p, q, r] _ cu) (chk_from [p', q', r'] _ cu) e3
      simp only [List.foldl_cons, List.foldl_nil] at e4
      have a1 := ox p (by simp)
      have a2 := ox q (by simp)
      have a3 := ox r (by simp)
      have b1 := or' p' (by simp)
      have b2 := or' q' (by simp)
      have b3 := or' r' (by simp)
      have : p = p' ∧ q = q' ∧ r = r' := near3 a1 a2 a3 b1 b2 b3 e4
      obtain ⟨rfl, rfl, rfl⟩ := this
      rw [mid x, mid row, e1, e2, pre, post]
    · -- the window reaches into the last four
      have hb := hout
      unfold bytes at hb
      have d3 : (row.length = k + 1) ∨ row.length = k + 2 := by omega
      have v3 := hb 3 (.inr (by omega))
      have v2 := hb 2 (.inr (by omega))
      simp only [List.getElem?_cons_succ, List.getElem?_cons_zero, Option.some.injEq] at v2 v3
      have cu := chk_in (row.take k)
      rcases d3 with d | d
      · obtain ⟨p, e1⟩ : ∃ p, x.drop k = [p] := by
          have : (x.drop k).length = 1 := by rw [List.length_drop]; omega
          match x.drop k, this with
          | [p], _ => exact ⟨p, rfl⟩
        obtain ⟨p', e2⟩ : ∃ p, row.drop k = [p] := by
          have : (row.drop k).length = 1 := by rw [List.length_drop]; omega
          match row.drop k, this with
          | [p], _ => exact ⟨p, rfl⟩
        have a1 := hx p (List.mem_of_mem_drop (by rw [e1]; simp : p ∈ x.drop k))
        have b1 := hr p' (List.mem_of_mem_drop (by rw [e2]; simp : p' ∈ row.drop k))
        have c1 : chk x = (chk (row.take k) * 257 + p + 1) % 4294967291 := by
          rw [← List.take_append_drop k x, e1, pre, chk_app]; rfl
        have c2 : chk row = (chk (row.take k) * 257 + p' + 1) % 4294967291 := by
          conv => lhs; rw [← List.take_append_drop k row, e2, chk_app]
          rfl
        have : p = p' := near1 a1 b1 cx cr c1 c2 v2 v3
        rw [← List.take_append_drop k x, ← List.take_append_drop k row, e1, e2, pre, this]
      · have v1 := hb 1 (.inr (by omega))
        simp only [List.getElem?_cons_succ, List.getElem?_cons_zero, Option.some.injEq] at v1
        obtain ⟨p, q, e1⟩ : ∃ p q, x.drop k = [p, q] := by
          have : (x.drop k).length = 2 := by rw [List.length_drop]; omega
          match x.drop k, this with
          | [p, q], _ => exact ⟨p, q, rfl⟩
        obtain ⟨p', q', e2⟩ : ∃ p q, row.drop k = [p, q] := by
          have : (row.drop k).length = 2 := by rw [List.length_drop]; omega
          match row.drop k, this with
          | [p, q], _ => exact ⟨p, q, rfl⟩
        have a1 := hx p (List.mem_of_mem_drop (by rw [e1]; simp : p ∈ x.drop k))
        have a2 := hx q (List.mem_of_mem_drop (by rw [e1]; simp : q ∈ x.drop k))
        have b1 := hr p' (List.mem_of_mem_drop (by rw [e2]; simp : p' ∈ row.drop k))
        have b2 := hr q' (List.mem_of_mem_drop (by rw [e2]; simp : q' ∈ row.drop k))
        have c1 : chk x = ((chk (row.take k) * 257 + p + 1) % 4294967291 * 257 + q + 1) % 4294967291 := by
          rw [← List.take_append_drop k x, e1, pre, chk_app]; rfl
        have c2 : chk row = ((chk (row.take k) * 257 + p' + 1) % 4294967291 * 257 + q' + 1) % 4294967291 := by
          conv => lhs; rw [← List.take_append_drop k row, e2, chk_app]
          rfl
        have : p = p' ∧ q = q' := near2 a1 a2 b1 b2 cx cr c1 c2 v1 v2 v3
        obtain ⟨rfl, rfl⟩ := this
        rw [← List.take_append_drop k x, ← List.take_append_drop k row, e1, e2, pre]
/-! bits -/
theorem joinL_nil : ∀ l : List (List Nat), TL.joinL [] l = l.flatten
  | [] => rfl
  | [p] => by simp [TL.joinL]
  | p :: q :: r => by
    show p ++ ([] ++ TL.joinL [] (q :: r)) = _
    rw [joinL_nil (q :: r)]
    simp
theorem join_flat (ss : List Str) : (Txt.join "" ss).cps.toList = (ss.map fun z => z.cps.toList).flatten := by
  have e := TL.tl_join "" ss
  rw [← TL.join_eq] at e
  have e2 : TL.joinL (TL.tl "") (ss.map TL.tl) = TL.joinL [] (ss.map TL.tl) := rfl
  rw [e2, joinL_nil] at e
  exact e
def bit1 (b : Bool) : Str := if b then "1" else "0"
theorem bit1_l (b : Bool) : (bit1 b).cps.toList = [if b then 49 else 48] ∧ (bit1 b).length = 1 := by cases b <;> exact ⟨rfl, rfl⟩
/-- the seven low bits of an octet, as signs -/
def bl (n : Nat) : List Nat := [6, 5, 4, 3, 2, 1, 0].map fun k => if n.testBit k then 49 else 48
def blS (n : Nat) : Str := Txt.join "" ([6, 5, 4, 3, 2, 1, 0].map fun k => bit1 (n.testBit k))
theorem blS_l (n : Nat) : (blS n).cps.toList = bl n := by
  unfold blS
  rw [join_flat]
  simp [bl, bit1_l]
theorem blS_len (n : Nat) : (blS n).length = 7 := by
  have := blS_l n
  have e : (blS n).length = (blS n).cps.toList.length := by rw [Array.length_toList]; rfl
  rw [e, this]
  rfl
theorem bit_and : ∀ n < 256, ∀ k < 7, (((n &&& (64 / 2 ^ k) : Nat) : Int) != 0) = n.testBit (6 - k) := by decide +kernel
theorem bl_num : ∀ n < 256, Bx.bitNum (bl n) = n % 128 := by decide +kernel
theorem bits_ok {n : Nat} {s : Bg} (hn : n < 256) : P_bits_of [.d (.int n)] s = .ok (.d (.str (blS n))) s := by
  unfold P_bits_of
  refine run_eq ?_
  have e : startP 2 [.d (.int (n : Int))] = [.d (.int (n : Int)), .no] := rfl
  rw [e]
  unfold q_bits_of
  simp only [w_ret, w_Join, w_C, w_Lc, w_iR1, w_aC, w_aN, d_GROUP, wO_some, wO_none, pd_slV1, pd_slV2, pd_slV3, pd_slD, pd_slL, pd_frz1, pd_frz2, pd_frzA0, pd_frzA1, pd_frzA2, pd_frzA3, pd_frzs0, pd_frzs1, pd_frzs2, pd_retV1, pd_retV2, pd_retV3, pd_oneV, pd_intV, pd_strV, pd_boolP, pd_truN, pd_truB, pd_truI, pd_lst1, pd_lst2, pd_lst3, pd_tup, pd_seq1, pd_seq2, pd_seq3, pd_seq4, pd_it1, pd_it2, pd_it3, pd_it4, pd_thaw0, pd_thaw1, pd_thaw2, pd_sets0, pd_sets1, pd_sets2, pd_setV1, pd_setV2, pd_put1, pd_put2, pd_puts0, pd_puts1, Co.toD, List.getElem?_cons_zero, List.getElem?_cons_succ, List.set_cons_zero, List.set_cons_succ, List.length_cons, List.length_nil, Option.map_some, Option.map_none, Option.bind_some, if_true, if_false, Bool.false_eq_true, true_and, and_true, Bool.not_true, Bool.not_false, decide_true, decide_false, reduceIte, wO_ran1, forgetP]
  refine ⟨by decide, ?_⟩
  refine w_lcL (fun _ => true) (fun x => match x with | .int k => .str (bit1 (n.testBit (6 - k.toNat))) | _ => .none) _ _ _ (by decide) (fun x hx => ?_) ?_
  · obtain ⟨k, hk, rfl⟩ := List.mem_map.mp hx
    have hk7 : k < 7 := List.mem_range.mp hk
    simp only [wO_some, wO_none, pd_slV1, pd_slV2, pd_slV3, pd_slD, pd_slL, pd_frz1, pd_frz2, pd_frzA0, pd_frzA1, pd_frzA2, pd_frzA3, pd_frzs0, pd_frzs1, pd_frzs2, pd_retV1, pd_retV2, pd_retV3, pd_oneV, pd_intV, pd_strV, pd_boolP, pd_truN, pd_truB, pd_truI, pd_lst1, pd_lst2, pd_lst3, pd_tup, pd_seq1, pd_seq2, pd_seq3, pd_seq4, pd_it1, pd_it2, pd_it3, pd_it4, pd_thaw0, pd_thaw1, pd_thaw2, pd_sets0, pd_sets1, pd_sets2, pd_setV1, pd_setV2, pd_put1, pd_put2, pd_puts0, pd_puts1, Co.toD, List.getElem?_cons_zero, List.getElem?_cons_succ, List.set_cons_zero, List.set_cons_succ, List.length_cons, List.length_nil, Option.map_some, Option.map_none, Option.bind_some, if_true, if_false, Bool.false_eq_true, true_and, and_true, Bool.not_true, Bool.not_false, decide_true, decide_false, reduceIte, w_bTrue, w_If, w_bV, w_2, w_V, w_C, d_HALF, o_fdiv, o_shr, o_and]
    refine fun _ => ⟨by omega, by omega, ?_⟩
    have e1 : Builtin.bitAnd (n : Int) (128 / 2 / 2 ^ (0 + (k : Int)).toNat) = ((n &&& (64 / 2 ^ k) : Nat) : Int) := by
      have : ((128 : Int) / 2 / 2 ^ (0 + (k : Int)).toNat) = ((64 / 2 ^ k : Nat) : Int) := by
        have h0 : (0 + (k : Int)).toNat = k := by omega
        rw [h0]
        norm_cast
      rw [this]
      exact PySem.W.os_band n (64 / 2 ^ k)
    rw [e1, bit_and n hn k hk7]
    have h0 : (0 + (k : Int)).toNat = k := by omega
    simp only [h0]
    cases hb : n.testBit (6 - k) with
    | true => rfl
    | false => rfl
  · have e2 : ([] ++ List.map (fun x => match x with | .int k => PyData.str (bit1 (n.testBit (6 - k.toNat))) | _ => .none) (List.filter (fun _ => true) (intsP' 0 (Int.toNat 7)))) = ([6, 5, 4, 3, 2, 1, 0].map fun k => bit1 (n.testBit k)).map PyData.str := rfl
    rw [e2, o_join (ss := [6, 5, 4, 3, 2, 1, 0].map fun k => bit1 (n.testBit k)) rfl]
    refine ⟨?_, ?_⟩
    · simp [bit1_l]
      decide
    · simp only [wO_some, wO_none, pd_slV1, pd_slV2, pd_slV3, pd_slD, pd_slL, pd_frz1, pd_frz2, pd_frzA0, pd_frzA1, pd_frzA2, pd_frzA3, pd_frzs0, pd_frzs1, pd_frzs2, pd_retV1, pd_retV2, pd_retV3, pd_oneV, pd_intV, pd_strV, pd_boolP, pd_truN, pd_truB, pd_truI, pd_lst1, pd_lst2, pd_lst3, pd_tup, pd_seq1, pd_seq2, pd_seq3, pd_seq4, pd_it1, pd_it2, pd_it3, pd_it4, pd_thaw0, pd_thaw1, pd_thaw2, pd_sets0, pd_sets1, pd_sets2, pd_setV1, pd_setV2, pd_put1, pd_put2, pd_puts0, pd_puts1, Co.toD, List.getElem?_cons_zero, List.getElem?_cons_succ, List.set_cons_zero, List.set_cons_succ, List.length_cons, List.length_nil, Option.map_some, Option.map_none, Option.bind_some, if_true, if_false, Bool.false_eq_true, true_and, and_true, Bool.not_true, Bool.not_false, decide_true, decide_false, reduceIte]
      rfl
theorem bitNum_app (a b : List Nat) : Bx.bitNum (a ++ b) = Bx.bitNum a * 2 ^ b.length + Bx.bitNum b := by
  have key : ∀ (b : List Nat) (x : Nat), b.foldl (fun a c => a * 2 + (c - 48)) x = x * 2 ^ b.length + b.foldl (fun a c => a * 2 + (c - 48)) 0 := by
    intro b
    induction b with
    | nil => intro x; simp
    | cons c b ih =>
      intro x
      rw [List.foldl_cons, List.foldl_cons, ih, ih (0 * 2 + (c - 48)), List.length_cons, Nat.pow_succ]
      rw [Nat.add_mul, Nat.zero_mul, Nat.zero_add, Nat.mul_assoc, Nat.mul_comm 2 (2 ^ b.length), Nat.add_assoc]
  unfold Bx.bitNum
  rw [List.foldl_append, key b]
theorem bl_len (n : Nat) : (bl n).length = 7 := rfl
theorem octs_num : ∀ n : Nat, Bx.bitNum (((octs n).reverse.map fun o => bl o.toNat).flatten) = n := by
  intro n
  induction n using Nat.strongRecOn with
  | _ n ih =>
    by_cases h : n ≤ 127
    · rw [octs_le h]
      simp only [List.reverse_cons, List.reverse_nil, List.nil_append, List.map_cons, List.map_nil, List.flatten_cons, List.flatten_nil, List.append_nil]
      rw [bl_num _ (by omega)]
      omega
    · rw [octs_gt h]
      rw [List.reverse_cons, List.map_append, List.flatten_append, bitNum_app, ih (n / 128) (by omega)]
      simp only [List.map_cons, List.map_nil, List.flatten_cons, List.flatten_nil, List.append_nil, bl_len]
      rw [bl_num _ (by omega)]
      omega
theorem octs_form : ∀ n : Nat, ∃ init last, octs n = init ++ [last] ∧ (∀ o ∈ init, 128 ≤ o ∧ o < 256) ∧ 0 ≤ last ∧ last < 128 ∧ (init ≠ [] → 0 < last) ∧ (0 < n → 0 < last) := by
  intro n
  induction n using Nat.strongRecOn with
  | _ n ih =>
    by_cases h : n ≤ 127
    · exact ⟨[], n, by rw [octs_le h]; rfl, by simp, by omega, by omega, by simp, by omega⟩
    · obtain ⟨init, last, e, h1, h2, h3, h4, h5⟩ := ih (n / 128) (by omega)
      refine ⟨(128 + (n % 128 : Nat) : Int) :: init, last, by rw [octs_gt h, e]; rfl, fun o ho => ?_, h2, h3, fun _ => h5 (by omega), fun _ => h5 (by omega)⟩
      rcases List.mem_cons.mp ho with z | z
      · rw [z]; omega
      · exact h1 o z
theorem octs_oct (n : Nat) : isOct (octs n) := by
  obtain ⟨init, last, e, h1, h2, h3, _⟩ := octs_form n
  intro o ho
  rw [e] at ho
  rcases List.mem_append.mp ho with z | z
  · have := h1 o z; omega
  · rw [List.mem_singleton.mp z]; omega
/-! integers read -/
theorem zs_get {l : List Int} {i : Nat} {o : Int} (h : l[i]? = some o) : atI (zs l) (i : Int) = some (.int o) := by
  have hi : i < (zs l).length := by rw [List.length_map]; exact (List.getElem?_eq_some_iff.mp h).1
  rw [at_nat hi, List.getElem?_map, h]
  rfl
/-- the loop runs to the first octet below 128, or the end -/
theorem read_loop {L : List Int} {place M : Nat} {s : Bg} {K : PEnv → Bg → Prop} {QS : PFl → PEnv → Bg → Prop} {XS : PEx → PEnv → Bg → Prop} (h1 : place ≤ M) (h2 : M ≤ L.length) (h3 : ∀ i o, place ≤ i → i < M → L[i]? = some o → 128 ≤ o)
    (h4 : ∀ o, L[M]? = some o → o < 128) (hK : K [.d (.tuple (zs L)), .d (.int place), .d (.int M), .no] s) :
    wS (pWh (bAndP (b2P pLt (pV 2) (pN pLen (paC (pV 0) paN))) (b2P pGe (p2 pIx (pV 0) (pV 2)) (pC d_HALF))) (pAug 2 pIadd (pC (.int 1))) [.d (.tuple (zs L)), .d (.int place), .d (.int place), .no] s) K QS XS := by
  refine w_while (fun k e s1 => ∃ i : Nat, e = [.d (.tuple (zs L)), .d (.int place), .d (.int i), .no] ∧ s1 = s ∧ place ≤ i ∧ i ≤ M ∧ k = M - i) ?_ (M - place) _ _ ⟨place, rfl, rfl, Nat.le_refl _, h1, rfl⟩
  rintro k e s1 ⟨i, rfl, rfl, hi1, hi2, rfl⟩
  simp only [w_bAnd, w_b2, w_V, w_N, w_aC, w_aN, w_2, w_C, d_HALF, wO_some, wO_none, pd_slV1, pd_slV2, pd_slV3, pd_slD, pd_slL, pd_frz1, pd_frz2, pd_frzA0, pd_frzA1, pd_frzA2, pd_frzA3, pd_frzs0, pd_frzs1, pd_frzs2, pd_retV1, pd_retV2, pd_retV3, pd_oneV, pd_intV, pd_strV, pd_boolP, pd_truN, pd_truB, pd_truI, pd_lst1, pd_lst2, pd_lst3, pd_tup, pd_seq1, pd_seq2, pd_seq3, pd_seq4, pd_it1, pd_it2, pd_it3, pd_it4, pd_thaw0, pd_thaw1, pd_thaw2, pd_sets0, pd_sets1, pd_sets2, pd_setV1, pd_setV2, pd_put1, pd_put2, pd_puts0, pd_puts1, Co.toD, List.getElem?_cons_zero, List.getElem?_cons_succ, List.set_cons_zero, List.set_cons_succ, List.length_cons, List.length_nil, Option.map_some, Option.map_none, Option.bind_some, if_true, if_false, Bool.false_eq_true, true_and, and_true, Bool.not_true, Bool.not_false, decide_true, decide_false, reduceIte, o_lenT, o_lt, List.length_map]
  by_cases hl : i < L.length
  · have hli : (i : Int) < (L.length : Int) := by omega
    simp only [hli, decide_true, wO_some, wO_none, pd_slV1, pd_slV2, pd_slV3, pd_slD, pd_slL, pd_frz1, pd_frz2, pd_frzA0, pd_frzA1, pd_frzA2, pd_frzA3, pd_frzs0, pd_frzs1, pd_frzs2, pd_retV1, pd_retV2, pd_retV3, pd_oneV, pd_intV, pd_strV, pd_boolP, pd_truN, pd_truB, pd_truI, pd_lst1, pd_lst2, pd_lst3, pd_tup, pd_seq1, pd_seq2, pd_seq3, pd_seq4, pd_it1, pd_it2, pd_it3, pd_it4, pd_thaw0, pd_thaw1, pd_thaw2, pd_sets0, pd_sets1, pd_sets2, pd_setV1, pd_setV2, pd_put1, pd_put2, pd_puts0, pd_puts1, Co.toD, List.getElem?_cons_zero, List.getElem?_cons_succ, List.set_cons_zero, List.set_cons_succ, List.length_cons, List.length_nil, Option.map_some, Option.map_none, Option.bind_some, if_true, if_false, Bool.false_eq_true, true_and, and_true, Bool.not_true, Bool.not_false, decide_true, decide_false, reduceIte]
    have hg := List.getElem?_eq_getElem hl
    generalize L[i] = o at hg
    rw [o_ix (xs := zs L) rfl, zs_get hg]
    simp only [wO_some, wO_none, pd_slV1, pd_slV2, pd_slV3, pd_slD, pd_slL, pd_frz1, pd_frz2, pd_frzA0, pd_frzA1, pd_frzA2, pd_frzA3, pd_frzs0, pd_frzs1, pd_frzs2, pd_retV1, pd_retV2, pd_retV3, pd_oneV, pd_intV, pd_strV, pd_boolP, pd_truN, pd_truB, pd_truI, pd_lst1, pd_lst2, pd_lst3, pd_tup, pd_seq1, pd_seq2, pd_seq3, pd_seq4, pd_it1, pd_it2, pd_it3, pd_it4, pd_thaw0, pd_thaw1, pd_thaw2, pd_sets0, pd_sets1, pd_sets2, pd_setV1, pd_setV2, pd_put1, pd_put2, pd_puts0, pd_puts1, Co.toD, List.getElem?_cons_zero, List.getElem?_cons_succ, List.set_cons_zero, List.set_cons_succ, List.length_cons, List.length_nil, Option.map_some, Option.map_none, Option.bind_some, if_true, if_false, Bool.false_eq_true, true_and, and_true, Bool.not_true, Bool.not_false, decide_true, decide_false, reduceIte, o_ge]
    by_cases hM : i < M
    · have := h3 i o hi1 hM hg
      simp only [this, decide_true, wO_some, wO_none, pd_slV1, pd_slV2, pd_slV3, pd_slD, pd_slL, pd_frz1, pd_frz2, pd_frzA0, pd_frzA1, pd_frzA2, pd_frzA3, pd_frzs0, pd_frzs1, pd_frzs2, pd_retV1, pd_retV2, pd_retV3, pd_oneV, pd_intV, pd_strV, pd_boolP, pd_truN, pd_truB, pd_truI, pd_lst1, pd_lst2, pd_lst3, pd_tup, pd_seq1, pd_seq2, pd_seq3, pd_seq4, pd_it1, pd_it2, pd_it3, pd_it4, pd_thaw0, pd_thaw1, pd_thaw2, pd_sets0, pd_sets1, pd_sets2, pd_setV1, pd_setV2, pd_put1, pd_put2, pd_puts0, pd_puts1, Co.toD, List.getElem?_cons_zero, List.getElem?_cons_succ, List.set_cons_zero, List.set_cons_succ, List.length_cons, List.length_nil, Option.map_some, Option.map_none, Option.bind_some, if_true, if_false, Bool.false_eq_true, true_and, and_true, Bool.not_true, Bool.not_false, decide_true, decide_false, reduceIte, w_aug, w_C, o_iadd]
      exact ⟨M - (i + 1), by omega, i + 1, by simp, by omega, by omega, rfl⟩
    · have e : i = M := by omega
      subst e
      have := h4 o hg
      have hn : ¬ (128 ≤ o) := by omega
      simp only [hn, decide_false, wO_some, wO_none, pd_slV1, pd_slV2, pd_slV3, pd_slD, pd_slL, pd_frz1, pd_frz2, pd_frzA0, pd_frzA1, pd_frzA2, pd_frzA3, pd_frzs0, pd_frzs1, pd_frzs2, pd_retV1, pd_retV2, pd_retV3, pd_oneV, pd_intV, pd_strV, pd_boolP, pd_truN, pd_truB, pd_truI, pd_lst1, pd_lst2, pd_lst3, pd_tup, pd_seq1, pd_seq2, pd_seq3, pd_seq4, pd_it1, pd_it2, pd_it3, pd_it4, pd_thaw0, pd_thaw1, pd_thaw2, pd_sets0, pd_sets1, pd_sets2, pd_setV1, pd_setV2, pd_put1, pd_put2, pd_puts0, pd_puts1, Co.toD, List.getElem?_cons_zero, List.getElem?_cons_succ, List.set_cons_zero, List.set_cons_succ, List.length_cons, List.length_nil, Option.map_some, Option.map_none, Option.bind_some, if_true, if_false, Bool.false_eq_true, true_and, and_true, Bool.not_true, Bool.not_false, decide_true, decide_false, reduceIte]
      exact hK
  · have hli : ¬ (i : Int) < (L.length : Int) := by omega
    have e : i = M := by omega
    subst e
    simp only [hli, decide_false, wO_some, wO_none, pd_slV1, pd_slV2, pd_slV3, pd_slD, pd_slL, pd_frz1, pd_frz2, pd_frzA0, pd_frzA1, pd_frzA2, pd_frzA3, pd_frzs0, pd_frzs1, pd_frzs2, pd_retV1, pd_retV2, pd_retV3, pd_oneV, pd_intV, pd_strV, pd_boolP, pd_truN, pd_truB, pd_truI, pd_lst1, pd_lst2, pd_lst3, pd_tup, pd_seq1, pd_seq2, pd_seq3, pd_seq4, pd_it1, pd_it2, pd_it3, pd_it4, pd_thaw0, pd_thaw1, pd_thaw2, pd_sets0, pd_sets1, pd_sets2, pd_setV1, pd_setV2, pd_put1, pd_put2, pd_puts0, pd_puts1, Co.toD, List.getElem?_cons_zero, List.getElem?_cons_succ, List.set_cons_zero, List.set_cons_succ, List.length_cons, List.length_nil, Option.map_some, Option.map_none, Option.bind_some, if_true, if_false, Bool.false_eq_true, true_and, and_true, Bool.not_true, Bool.not_false, decide_true, decide_false, reduceIte]
    exact hK
theorem cutL_mid {α : Type} (xs : List α) (a b : Nat) (h : a ≤ b) (hb : b ≤ xs.length) : cutL xs (some (a : Int)) (some (b : Int)) = (xs.drop a).take (b - a) := by
  unfold cutL
  rw [HT.sIx_nat, HT.sIx_nat, Nat.min_eq_left hb, Nat.min_eq_left (Nat.le_trans h hb)]
theorem read_ok {A R : List Int} {n : Nat} {s : Bg} (hn : n < 128 ^ 90) (hR : A.length + R.length ≤ 1000) : P_read_integer [.d (.tuple (zs (A ++ (octs n ++ R)))), .d (.int A.length)] s = .ok (.d (.tuple [.int n, .int ((A.length + (octs n).length : Nat) : Int)])) s := by
  unfold P_read_integer
  refine run_eq ?_
  have e : startP 4 [.d (.tuple (zs (A ++ (octs n ++ R)))), .d (.int (A.length : Int))] = [.d (.tuple (zs (A ++ (octs n ++ R)))), .d (.int (A.length : Int)), .no, .no] := rfl
  rw [e]
  unfold q_read_integer
  obtain ⟨init, last, eo, g1, g2, g3, g4, g5⟩ := octs_form n
  have hlen : (octs n).length = init.length + 1 := by rw [eo]; simp
  have hoct := octs_len 89 n hn
  have hL : (A ++ (octs n ++ R)).length = A.length + (octs n).length + R.length := by simp; omega
  have hlast : (A ++ (octs n ++ R))[A.length + init.length]? = some last := by
    rw [List.getElem?_append_right (by omega), eo]
    simp
  rw [w_seq, w_setF]
  simp only [w_seq, w_V, wO_some, wO_none, pd_slV1, pd_slV2, pd_slV3, pd_slD, pd_slL, pd_frz1, pd_frz2, pd_frzA0, pd_frzA1, pd_frzA2, pd_frzA3, pd_frzs0, pd_frzs1, pd_frzs2, pd_retV1, pd_retV2, pd_retV3, pd_oneV, pd_intV, pd_strV, pd_boolP, pd_truN, pd_truB, pd_truI, pd_lst1, pd_lst2, pd_lst3, pd_tup, pd_seq1, pd_seq2, pd_seq3, pd_seq4, pd_it1, pd_it2, pd_it3, pd_it4, pd_thaw0, pd_thaw1, pd_thaw2, pd_sets0, pd_sets1, pd_sets2, pd_setV1, pd_setV2, pd_put1, pd_put2, pd_puts0, pd_puts1, Co.toD, List.getElem?_cons_zero, List.getElem?_cons_succ, List.set_cons_zero, List.set_cons_succ, List.length_cons, List.length_nil, Option.map_some, Option.map_none, Option.bind_some, if_true, if_false, Bool.false_eq_true, true_and, and_true, Bool.not_true, Bool.not_false, decide_true, decide_false, reduceIte]
  refine read_loop (M := A.length + init.length) (by omega) (by omega) (fun i o i1 i2 ho => ?_) (fun o ho => ?_) ?_
  · rw [List.getElem?_append_right (by omega), eo, List.append_assoc, List.getElem?_append_left (by omega)] at ho
    exact (g1 o (List.mem_of_getElem? ho)).1
  · rw [hlast] at ho
    cases ho
    exact g3
  · simp only [w_ifS, w_bOr, w_bAnd, w_b2, w_V, w_N, w_aC, w_aN, w_2, w_C, wO_some, wO_none, pd_slV1, pd_slV2, pd_slV3, pd_slD, pd_slL, pd_frz1, pd_frz2, pd_frzA0, pd_frzA1, pd_frzA2, pd_frzA3, pd_frzs0, pd_frzs1, pd_frzs2, pd_retV1, pd_retV2, pd_retV3, pd_oneV, pd_intV, pd_strV, pd_boolP, pd_truN, pd_truB, pd_truI, pd_lst1, pd_lst2, pd_lst3, pd_tup, pd_seq1, pd_seq2, pd_seq3, pd_seq4, pd_it1, pd_it2, pd_it3, pd_it4, pd_thaw0, pd_thaw1, pd_thaw2, pd_sets0, pd_sets1, pd_sets2, pd_setV1, pd_setV2, pd_put1, pd_put2, pd_puts0, pd_puts1, Co.toD, List.getElem?_cons_zero, List.getElem?_cons_succ, List.set_cons_zero, List.set_cons_succ, List.length_cons, List.length_nil, Option.map_some, Option.map_none, Option.bind_some, if_true, if_false, Bool.false_eq_true, true_and, and_true, Bool.not_true, Bool.not_false, decide_true, decide_false, reduceIte, o_lenT, o_eqi, List.length_map]
    have hne : ¬ (((A.length + init.length : Nat) : Int) = ((A ++ (octs n ++ R)).length : Int)) := by omega
    simp only [hne, decide_false, wO_some, wO_none, pd_slV1, pd_slV2, pd_slV3, pd_slD, pd_slL, pd_frz1, pd_frz2, pd_frzA0, pd_frzA1, pd_frzA2, pd_frzA3, pd_frzs0, pd_frzs1, pd_frzs2, pd_retV1, pd_retV2, pd_retV3, pd_oneV, pd_intV, pd_strV, pd_boolP, pd_truN, pd_truB, pd_truI, pd_lst1, pd_lst2, pd_lst3, pd_tup, pd_seq1, pd_seq2, pd_seq3, pd_seq4, pd_it1, pd_it2, pd_it3, pd_it4, pd_thaw0, pd_thaw1, pd_thaw2, pd_sets0, pd_sets1, pd_sets2, pd_setV1, pd_setV2, pd_put1, pd_put2, pd_puts0, pd_puts1, Co.toD, List.getElem?_cons_zero, List.getElem?_cons_succ, List.set_cons_zero, List.set_cons_succ, List.length_cons, List.length_nil, Option.map_some, Option.map_none, Option.bind_some, if_true, if_false, Bool.false_eq_true, true_and, and_true, Bool.not_true, Bool.not_false, decide_true, decide_false, reduceIte]
    rw [o_ix (xs := zs (A ++ (octs n ++ R))) rfl, zs_get hlast]
    simp only [wO_some, wO_none, pd_slV1, pd_slV2, pd_slV3, pd_slD, pd_slL, pd_frz1, pd_frz2, pd_frzA0, pd_frzA1, pd_frzA2, pd_frzA3, pd_frzs0, pd_frzs1, pd_frzs2, pd_retV1, pd_retV2, pd_retV3, pd_oneV, pd_intV, pd_strV, pd_boolP, pd_truN, pd_truB, pd_truI, pd_lst1, pd_lst2, pd_lst3, pd_tup, pd_seq1, pd_seq2, pd_seq3, pd_seq4, pd_it1, pd_it2, pd_it3, pd_it4, pd_thaw0, pd_thaw1, pd_thaw2, pd_sets0, pd_sets1, pd_sets2, pd_setV1, pd_setV2, pd_put1, pd_put2, pd_puts0, pd_puts1, Co.toD, List.getElem?_cons_zero, List.getElem?_cons_succ, List.set_cons_zero, List.set_cons_succ, List.length_cons, List.length_nil, Option.map_some, Option.map_none, Option.bind_some, if_true, if_false, Bool.false_eq_true, true_and, and_true, Bool.not_true, Bool.not_false, decide_true, decide_false, reduceIte, o_eqi]
    have ret : wS (pRet (pN pTup (paC (pN pInt2 (paC (pJoin (pC (.str "")) (pLc (piV (pRv (pSl (pV 0) (oSomeP (pV 1)) (oSomeP (p2 pAdd (pV 2) (pC (.int 1))))))) (.name 3) (bTrueP) (pCall 1 P_bits_of (paC (pV 3) paN)) [3])) (paC (pC (.int 2)) paN))) (paC (p2 pAdd (pV 2) (pC (.int 1))) paN))) [Sl.d (.tuple (zs (A ++ (octs n ++ R)))), .d (.int (A.length : Int)), .d (.int ((A.length + init.length : Nat) : Int)), .no] s)
        (fun _ s1 => PV.d .none = PV.d (.tuple [.int n, .int ((A.length + (octs n).length : Nat) : Int)]) ∧ s1 = s) (fun f _ s1 => f = .rt (PV.d (.tuple [.int n, .int ((A.length + (octs n).length : Nat) : Int)])) ∧ s1 = s) (fun _ _ _ => False) := by
      have e1 : (((A.length + init.length : Nat) : Int) + 1) = ((A.length + (octs n).length : Nat) : Int) := by omega
      simp only [w_ret, w_N, w_aC, w_aN, w_Join, w_C, w_Lc, w_iV, w_Rv, w_Sl, w_oS, w_V, w_2, wO_some, wO_none, pd_slV1, pd_slV2, pd_slV3, pd_slD, pd_slL, pd_frz1, pd_frz2, pd_frzA0, pd_frzA1, pd_frzA2, pd_frzA3, pd_frzs0, pd_frzs1, pd_frzs2, pd_retV1, pd_retV2, pd_retV3, pd_oneV, pd_intV, pd_strV, pd_boolP, pd_truN, pd_truB, pd_truI, pd_lst1, pd_lst2, pd_lst3, pd_tup, pd_seq1, pd_seq2, pd_seq3, pd_seq4, pd_it1, pd_it2, pd_it3, pd_it4, pd_thaw0, pd_thaw1, pd_thaw2, pd_sets0, pd_sets1, pd_sets2, pd_setV1, pd_setV2, pd_put1, pd_put2, pd_puts0, pd_puts1, Co.toD, List.getElem?_cons_zero, List.getElem?_cons_succ, List.set_cons_zero, List.set_cons_succ, List.length_cons, List.length_nil, Option.map_some, Option.map_none, Option.bind_some, if_true, if_false, Bool.false_eq_true, true_and, and_true, Bool.not_true, Bool.not_false, decide_true, decide_false, reduceIte, o_add, e1, o_cutT, o_rev4, forgetP]
      rw [cutL_mid _ _ _ (by omega) (by rw [List.length_map, hL]; omega)]
      have e2 : ((zs (A ++ (octs n ++ R))).drop A.length).take (A.length + (octs n).length - A.length) = zs (octs n) := by
        rw [← List.map_drop, ← List.map_take, List.drop_left, Nat.add_sub_cancel_left, List.take_left]
      rw [e2, ← List.map_reverse]
      refine w_lcL (fun _ => true) (fun x => match x with | .int k => .str (blS k.toNat) | _ => .none) _ _ _ (by simp only [List.length_nil, List.length_map, List.length_reverse]; show 0 + (octs n).length ≤ 16777216; omega) (fun x hx => ?_) ?_
      · obtain ⟨o, ho, rfl⟩ := List.mem_map.mp hx
        have hoo := octs_oct n o (List.mem_reverse.mp ho)
        obtain ⟨k, rfl⟩ : ∃ k : Nat, o = (k : Int) := ⟨o.toNat, by omega⟩
        simp only [wO_some, wO_none, pd_slV1, pd_slV2, pd_slV3, pd_slD, pd_slL, pd_frz1, pd_frz2, pd_frzA0, pd_frzA1, pd_frzA2, pd_frzA3, pd_frzs0, pd_frzs1, pd_frzs2, pd_retV1, pd_retV2, pd_retV3, pd_oneV, pd_intV, pd_strV, pd_boolP, pd_truN, pd_truB, pd_truI, pd_lst1, pd_lst2, pd_lst3, pd_tup, pd_seq1, pd_seq2, pd_seq3, pd_seq4, pd_it1, pd_it2, pd_it3, pd_it4, pd_thaw0, pd_thaw1, pd_thaw2, pd_sets0, pd_sets1, pd_sets2, pd_setV1, pd_setV2, pd_put1, pd_put2, pd_puts0, pd_puts1, Co.toD, List.getElem?_cons_zero, List.getElem?_cons_succ, List.set_cons_zero, List.set_cons_succ, List.length_cons, List.length_nil, Option.map_some, Option.map_none, Option.bind_some, if_true, if_false, Bool.false_eq_true, true_and, and_true, Bool.not_true, Bool.not_false, decide_true, decide_false, reduceIte, w_bTrue, w_call, w_aC, w_aN, w_V]
        rw [wE_eq (bits_ok (by omega))]
        exact fun _ => ⟨rfl, rfl⟩
      · have e3 : ([] ++ List.map (fun x => match x with | .int k => PyData.str (blS k.toNat) | _ => .none) (List.filter (fun _ => true) (List.map PyData.int (octs n).reverse))) = ((octs n).reverse.map fun o => blS o.toNat).map PyData.str := by
          rw [List.filter_eq_self.mpr (by simp), List.nil_append, List.map_map, List.map_map]
          rfl
        rw [e3, o_join (ss := (octs n).reverse.map fun o => blS o.toNat) rfl]
        have e4 : (Txt.join "" ((octs n).reverse.map fun o => blS o.toNat)).cps.toList = ((octs n).reverse.map fun o => bl o.toNat).flatten := by
          rw [join_flat, List.map_map]
          congr 1
          exact List.map_congr_left fun o _ => blS_l _
        have e5 : (((octs n).reverse.map fun o => blS o.toNat).map (·.length)).sum = 7 * (octs n).length := by
          rw [List.map_map]
          have : ∀ l : List Int, (l.map ((fun x : Str => x.length) ∘ fun o => blS o.toNat)).sum = 7 * l.length := by
            intro l
            induction l with
            | nil => rfl
            | cons a l ih => rw [List.map_cons, List.sum_cons, ih]; simp only [Function.comp, blS_len, List.length_cons]; omega
          rw [this]; simp
        refine ⟨?_, ?_⟩
        · rw [e5]
          show 7 * (octs n).length + _ * 0 ≤ 16777216
          omega
        · rw [o_int2]
          have lenS : (Txt.join "" ((octs n).reverse.map fun o => blS o.toNat)).length = 7 * (octs n).length := by
            show (Txt.join "" _).cps.size = _
            rw [← Array.length_toList, e4]
            have : ∀ l : List Int, ((l.map fun o => bl o.toNat).flatten).length = 7 * l.length := by
              intro l
              induction l with
              | nil => rfl
              | cons a l ih => rw [List.map_cons, List.flatten_cons, List.length_append, ih, bl_len, List.length_cons]; omega
            rw [this]; simp
          refine ⟨⟨rfl, ?_⟩, ?_⟩
          · unfold bitsB
            rw [lenS, e4]
            simp only [Bool.and_eq_true, decide_eq_true_eq, Bool.not_eq_true', List.all_eq_true]
            refine ⟨⟨by omega, ?_⟩, fun c hc => ?_⟩
            · cases q : ((octs n).reverse.map fun o => bl o.toNat).flatten with
              | cons _ _ => rfl
              | nil =>
                rw [← e4] at q
                have : (Txt.join "" ((octs n).reverse.map fun o => blS o.toNat)).cps.toList.length = 0 := by rw [q]; rfl
                rw [Array.length_toList] at this
                have h2 : (Txt.join "" ((octs n).reverse.map fun o => blS o.toNat)).length = 0 := this
                omega
            · obtain ⟨l, hl, hc⟩ := List.mem_flatten.mp hc
              obtain ⟨o, _, rfl⟩ := List.mem_map.mp hl
              obtain ⟨k, _, rfl⟩ := List.mem_map.mp hc
              cases (o.toNat).testBit k <;> rfl
          · rw [e4, octs_num]
            simp only [o_tup, wO_some, wO_none, pd_slV1, pd_slV2, pd_slV3, pd_slD, pd_slL, pd_frz1, pd_frz2, pd_frzA0, pd_frzA1, pd_frzA2, pd_frzA3, pd_frzs0, pd_frzs1, pd_frzs2, pd_retV1, pd_retV2, pd_retV3, pd_oneV, pd_intV, pd_strV, pd_boolP, pd_truN, pd_truB, pd_truI, pd_lst1, pd_lst2, pd_lst3, pd_tup, pd_seq1, pd_seq2, pd_seq3, pd_seq4, pd_it1, pd_it2, pd_it3, pd_it4, pd_thaw0, pd_thaw1, pd_thaw2, pd_sets0, pd_sets1, pd_sets2, pd_setV1, pd_setV2, pd_put1, pd_put2, pd_puts0, pd_puts1, Co.toD, List.getElem?_cons_zero, List.getElem?_cons_succ, List.set_cons_zero, List.set_cons_succ, List.length_cons, List.length_nil, Option.map_some, Option.map_none, Option.bind_some, if_true, if_false, Bool.false_eq_true, true_and, and_true, Bool.not_true, Bool.not_false, decide_true, decide_false, reduceIte]
            decide
    by_cases hz : last = 0
    · have hi : init = [] := by
        cases init with
        | nil => rfl
        | cons a b => have := g4 (by simp); omega
      have hgt : ¬ ((A.length : Int) < ((A.length + init.length : Nat) : Int)) := by rw [hi]; simp
      simp only [hz, decide_true, wO_some, wO_none, pd_slV1, pd_slV2, pd_slV3, pd_slD, pd_slL, pd_frz1, pd_frz2, pd_frzA0, pd_frzA1, pd_frzA2, pd_frzA3, pd_frzs0, pd_frzs1, pd_frzs2, pd_retV1, pd_retV2, pd_retV3, pd_oneV, pd_intV, pd_strV, pd_boolP, pd_truN, pd_truB, pd_truI, pd_lst1, pd_lst2, pd_lst3, pd_tup, pd_seq1, pd_seq2, pd_seq3, pd_seq4, pd_it1, pd_it2, pd_it3, pd_it4, pd_thaw0, pd_thaw1, pd_thaw2, pd_sets0, pd_sets1, pd_sets2, pd_setV1, pd_setV2, pd_put1, pd_put2, pd_puts0, pd_puts1, Co.toD, List.getElem?_cons_zero, List.getElem?_cons_succ, List.set_cons_zero, List.set_cons_succ, List.length_cons, List.length_nil, Option.map_some, Option.map_none, Option.bind_some, if_true, if_false, Bool.false_eq_true, true_and, and_true, Bool.not_true, Bool.not_false, decide_true, decide_false, reduceIte, w_V, o_gt, hgt, decide_false, w_nop]
      exact ret
    · simp only [hz, decide_false, wO_some, wO_none, pd_slV1, pd_slV2, pd_slV3, pd_slD, pd_slL, pd_frz1, pd_frz2, pd_frzA0, pd_frzA1, pd_frzA2, pd_frzA3, pd_frzs0, pd_frzs1, pd_frzs2, pd_retV1, pd_retV2, pd_retV3, pd_oneV, pd_intV, pd_strV, pd_boolP, pd_truN, pd_truB, pd_truI, pd_lst1, pd_lst2, pd_lst3, pd_tup, pd_seq1, pd_seq2, pd_seq3, pd_seq4, pd_it1, pd_it2, pd_it3, pd_it4, pd_thaw0, pd_thaw1, pd_thaw2, pd_sets0, pd_sets1, pd_sets2, pd_setV1, pd_setV2, pd_put1, pd_put2, pd_puts0, pd_puts1, Co.toD, List.getElem?_cons_zero, List.getElem?_cons_succ, List.set_cons_zero, List.set_cons_succ, List.length_cons, List.length_nil, Option.map_some, Option.map_none, Option.bind_some, if_true, if_false, Bool.false_eq_true, true_and, and_true, Bool.not_true, Bool.not_false, decide_true, decide_false, reduceIte, w_nop]
      exact ret
theorem read_cut {A : List Int} {n : Nat} {s : Bg} (hA : A.length ≤ 1000) (hn : n < 128 ^ 90) : P_read_integer [.d (.tuple (zs (A ++ (octs n).dropLast))), .d (.int A.length)] s = .exc (pexOf "BadBytes" [("index", 0), ("fault", 1)] [.int A.length, .str "integer"]) s := by
  unfold P_read_integer
  refine run_exc ?_
  have e : startP 4 [.d (.tuple (zs (A ++ (octs n).dropLast))), .d (.int (A.length : Int))] = [.d (.tuple (zs (A ++ (octs n).dropLast))), .d (.int (A.length : Int)), .no, .no] := rfl
  rw [e]
  unfold q_read_integer
  obtain ⟨init, last, eo, g1, g2, g3, g4, g5⟩ := octs_form n
  have ed : (octs n).dropLast = init := by rw [eo]; simp
  rw [ed]
  rw [w_seq, w_setF]
  simp only [w_seq, w_V, wO_some, wO_none, pd_slV1, pd_slV2, pd_slV3, pd_slD, pd_slL, pd_frz1, pd_frz2, pd_frzA0, pd_frzA1, pd_frzA2, pd_frzA3, pd_frzs0, pd_frzs1, pd_frzs2, pd_retV1, pd_retV2, pd_retV3, pd_oneV, pd_intV, pd_strV, pd_boolP, pd_truN, pd_truB, pd_truI, pd_lst1, pd_lst2, pd_lst3, pd_tup, pd_seq1, pd_seq2, pd_seq3, pd_seq4, pd_it1, pd_it2, pd_it3, pd_it4, pd_thaw0, pd_thaw1, pd_thaw2, pd_sets0, pd_sets1, pd_sets2, pd_setV1, pd_setV2, pd_put1, pd_put2, pd_puts0, pd_puts1, Co.toD, List.getElem?_cons_zero, List.getElem?_cons_succ, List.set_cons_zero, List.set_cons_succ, List.length_cons, List.length_nil, Option.map_some, Option.map_none, Option.bind_some, if_true, if_false, Bool.false_eq_true, true_and, and_true, Bool.not_true, Bool.not_false, decide_true, decide_false, reduceIte]
  refine read_loop (M := A.length + init.length) (by omega) (by simp) (fun i o i1 i2 ho => ?_) (fun o ho => ?_) ?_
  · rw [List.getElem?_append_right (by omega)] at ho
    exact (g1 o (List.mem_of_getElem? ho)).1
  · rw [List.getElem?_eq_none (by simp)] at ho
    cases ho
  · simp only [w_ifS, w_bOr, w_bAnd, w_b2, w_V, w_N, w_aC, w_aN, w_2, w_C, wO_some, wO_none, pd_slV1, pd_slV2, pd_slV3, pd_slD, pd_slL, pd_frz1, pd_frz2, pd_frzA0, pd_frzA1, pd_frzA2, pd_frzA3, pd_frzs0, pd_frzs1, pd_frzs2, pd_retV1, pd_retV2, pd_retV3, pd_oneV, pd_intV, pd_strV, pd_boolP, pd_truN, pd_truB, pd_truI, pd_lst1, pd_lst2, pd_lst3, pd_tup, pd_seq1, pd_seq2, pd_seq3, pd_seq4, pd_it1, pd_it2, pd_it3, pd_it4, pd_thaw0, pd_thaw1, pd_thaw2, pd_sets0, pd_sets1, pd_sets2, pd_setV1, pd_setV2, pd_put1, pd_put2, pd_puts0, pd_puts1, Co.toD, List.getElem?_cons_zero, List.getElem?_cons_succ, List.set_cons_zero, List.set_cons_succ, List.length_cons, List.length_nil, Option.map_some, Option.map_none, Option.bind_some, if_true, if_false, Bool.false_eq_true, true_and, and_true, Bool.not_true, Bool.not_false, decide_true, decide_false, reduceIte, o_lenT, o_eqi, List.length_map]
    have he : (((A.length + init.length : Nat) : Int) = ((A ++ init).length : Int)) := by simp
    simp only [he, decide_true, wO_some, wO_none, pd_slV1, pd_slV2, pd_slV3, pd_slD, pd_slL, pd_frz1, pd_frz2, pd_frzA0, pd_frzA1, pd_frzA2, pd_frzA3, pd_frzs0, pd_frzs1, pd_frzs2, pd_retV1, pd_retV2, pd_retV3, pd_oneV, pd_intV, pd_strV, pd_boolP, pd_truN, pd_truB, pd_truI, pd_lst1, pd_lst2, pd_lst3, pd_tup, pd_seq1, pd_seq2, pd_seq3, pd_seq4, pd_it1, pd_it2, pd_it3, pd_it4, pd_thaw0, pd_thaw1, pd_thaw2, pd_sets0, pd_sets1, pd_sets2, pd_setV1, pd_setV2, pd_put1, pd_put2, pd_puts0, pd_puts1, Co.toD, List.getElem?_cons_zero, List.getElem?_cons_succ, List.set_cons_zero, List.set_cons_succ, List.length_cons, List.length_nil, Option.map_some, Option.map_none, Option.bind_some, if_true, if_false, Bool.false_eq_true, true_and, and_true, Bool.not_true, Bool.not_false, decide_true, decide_false, reduceIte, w_raise, w_aC, w_aN, w_V, w_C]
theorem read_zero {s : Bg} : P_read_integer [.d (.tuple (zs [128, 0])), .d (.int 0)] s = .exc (pexOf "BadBytes" [("index", 0), ("fault", 1)] [.int 0, .str "integer"]) s := by
  unfold P_read_integer
  refine run_exc ?_
  have e : startP 4 [.d (.tuple (zs [128, 0])), .d (.int 0)] = [.d (.tuple (zs [128, 0])), .d (.int (0 : Nat)), .no, .no] := rfl
  rw [e]
  unfold q_read_integer
  rw [w_seq, w_setF]
  simp only [w_seq, w_V, wO_some, wO_none, pd_slV1, pd_slV2, pd_slV3, pd_slD, pd_slL, pd_frz1, pd_frz2, pd_frzA0, pd_frzA1, pd_frzA2, pd_frzA3, pd_frzs0, pd_frzs1, pd_frzs2, pd_retV1, pd_retV2, pd_retV3, pd_oneV, pd_intV, pd_strV, pd_boolP, pd_truN, pd_truB, pd_truI, pd_lst1, pd_lst2, pd_lst3, pd_tup, pd_seq1, pd_seq2, pd_seq3, pd_seq4, pd_it1, pd_it2, pd_it3, pd_it4, pd_thaw0, pd_thaw1, pd_thaw2, pd_sets0, pd_sets1, pd_sets2, pd_setV1, pd_setV2, pd_put1, pd_put2, pd_puts0, pd_puts1, Co.toD, List.getElem?_cons_zero, List.getElem?_cons_succ, List.set_cons_zero, List.set_cons_succ, List.length_cons, List.length_nil, Option.map_some, Option.map_none, Option.bind_some, if_true, if_false, Bool.false_eq_true, true_and, and_true, Bool.not_true, Bool.not_false, decide_true, decide_false, reduceIte]
  refine read_loop (L := [128, 0]) (M := 1) (by omega) (by decide) (fun i o i1 i2 ho => ?_) (fun o ho => ?_) ?_
  · have : i = 0 := by omega
    subst this
    cases ho
    omega
  · cases ho
    omega
  · simp only [w_ifS, w_bOr, w_bAnd, w_b2, w_V, w_N, w_aC, w_aN, w_2, w_C, wO_some, wO_none, pd_slV1, pd_slV2, pd_slV3, pd_slD, pd_slL, pd_frz1, pd_frz2, pd_frzA0, pd_frzA1, pd_frzA2, pd_frzA3, pd_frzs0, pd_frzs1, pd_frzs2, pd_retV1, pd_retV2, pd_retV3, pd_oneV, pd_intV, pd_strV, pd_boolP, pd_truN, pd_truB, pd_truI, pd_lst1, pd_lst2, pd_lst3, pd_tup, pd_seq1, pd_seq2, pd_seq3, pd_seq4, pd_it1, pd_it2, pd_it3, pd_it4, pd_thaw0, pd_thaw1, pd_thaw2, pd_sets0, pd_sets1, pd_sets2, pd_setV1, pd_setV2, pd_put1, pd_put2, pd_puts0, pd_puts1, Co.toD, List.getElem?_cons_zero, List.getElem?_cons_succ, List.set_cons_zero, List.set_cons_succ, List.length_cons, List.length_nil, Option.map_some, Option.map_none, Option.bind_some, if_true, if_false, Bool.false_eq_true, true_and, and_true, Bool.not_true, Bool.not_false, decide_true, decide_false, reduceIte, o_lenT, o_eqi, List.length_map]
    have he : ¬ (((1 : Nat) : Int) = ((0 + 1 + 1 : Nat) : Int)) := by decide
    simp only [he, decide_false, wO_some, wO_none, pd_slV1, pd_slV2, pd_slV3, pd_slD, pd_slL, pd_frz1, pd_frz2, pd_frzA0, pd_frzA1, pd_frzA2, pd_frzA3, pd_frzs0, pd_frzs1, pd_frzs2, pd_retV1, pd_retV2, pd_retV3, pd_oneV, pd_intV, pd_strV, pd_boolP, pd_truN, pd_truB, pd_truI, pd_lst1, pd_lst2, pd_lst3, pd_tup, pd_seq1, pd_seq2, pd_seq3, pd_seq4, pd_it1, pd_it2, pd_it3, pd_it4, pd_thaw0, pd_thaw1, pd_thaw2, pd_sets0, pd_sets1, pd_sets2, pd_setV1, pd_setV2, pd_put1, pd_put2, pd_puts0, pd_puts1, Co.toD, List.getElem?_cons_zero, List.getElem?_cons_succ, List.set_cons_zero, List.set_cons_succ, List.length_cons, List.length_nil, Option.map_some, Option.map_none, Option.bind_some, if_true, if_false, Bool.false_eq_true, true_and, and_true, Bool.not_true, Bool.not_false, decide_true, decide_false, reduceIte]
    rw [o_ix (xs := zs [128, 0]) rfl, zs_get (l := [128, 0]) (i := 1) (o := 0) rfl]
    simp only [wO_some, wO_none, pd_slV1, pd_slV2, pd_slV3, pd_slD, pd_slL, pd_frz1, pd_frz2, pd_frzA0, pd_frzA1, pd_frzA2, pd_frzA3, pd_frzs0, pd_frzs1, pd_frzs2, pd_retV1, pd_retV2, pd_retV3, pd_oneV, pd_intV, pd_strV, pd_boolP, pd_truN, pd_truB, pd_truI, pd_lst1, pd_lst2, pd_lst3, pd_tup, pd_seq1, pd_seq2, pd_seq3, pd_seq4, pd_it1, pd_it2, pd_it3, pd_it4, pd_thaw0, pd_thaw1, pd_thaw2, pd_sets0, pd_sets1, pd_sets2, pd_setV1, pd_setV2, pd_put1, pd_put2, pd_puts0, pd_puts1, Co.toD, List.getElem?_cons_zero, List.getElem?_cons_succ, List.set_cons_zero, List.set_cons_succ, List.length_cons, List.length_nil, Option.map_some, Option.map_none, Option.bind_some, if_true, if_false, Bool.false_eq_true, true_and, and_true, Bool.not_true, Bool.not_false, decide_true, decide_false, reduceIte, o_eqi, w_V, o_gt]
    have h2 : ((0 : Nat) : Int) < ((1 : Nat) : Int) := by decide
    simp only [h2, decide_true, wO_some, wO_none, pd_slV1, pd_slV2, pd_slV3, pd_slD, pd_slL, pd_frz1, pd_frz2, pd_frzA0, pd_frzA1, pd_frzA2, pd_frzA3, pd_frzs0, pd_frzs1, pd_frzs2, pd_retV1, pd_retV2, pd_retV3, pd_oneV, pd_intV, pd_strV, pd_boolP, pd_truN, pd_truB, pd_truI, pd_lst1, pd_lst2, pd_lst3, pd_tup, pd_seq1, pd_seq2, pd_seq3, pd_seq4, pd_it1, pd_it2, pd_it3, pd_it4, pd_thaw0, pd_thaw1, pd_thaw2, pd_sets0, pd_sets1, pd_sets2, pd_setV1, pd_setV2, pd_put1, pd_put2, pd_puts0, pd_puts1, Co.toD, List.getElem?_cons_zero, List.getElem?_cons_succ, List.set_cons_zero, List.set_cons_succ, List.length_cons, List.length_nil, Option.map_some, Option.map_none, Option.bind_some, if_true, if_false, Bool.false_eq_true, true_and, and_true, Bool.not_true, Bool.not_false, decide_true, decide_false, reduceIte, w_raise, w_aC, w_aN, w_V, w_C]
    rfl
end PD
set_option Elab.async false
set_option linter.all false
set_option maxRecDepth 100000
set_option maxHeartbeats 4000000
namespace PD
open PySem PySem.Spec PyProof.Rows L2 DL Hn K43
theorem deed_exc {s : Bg} {r : PR PV} {i : Int} (h : r = .exc (pexOf "BadBytes" [("index", 0), ("fault", 1)] [.int i, .str "integer"]) s) : TP__law_octets r = .ok (.d (.tuple [.str "bytes", .int i, .str "integer"])) s := by
  rw [h]
  rfl
/-- n draws below 256 -/
theorem draws {e : PEnv} {own : List Nat} {s : Bg} {n : Nat} {Q : List PyData → Bg → Prop} {X : PEx → Bg → Prop} (hn : n ≤ 1000) (hg : Good s) (hb : ∀ x : PyData, ((forgetP own e).set 12 (.d x))[1]? = some .bag) (h : ∀ (l : List Int) s', isOct l → l.length = n → Good s' → Q (zs l) s') :
    wE (plcL (.name 12) bTrueP (pCall 2 P__law_take (paC (pV 1) (paC (pC (.int 256)) paN))) (forgetP own e) (intsP' 0 n) [] s) Q X := by
  have hlen : (intsP' 0 n).length = n := by unfold intsP'; simp
  refine w_lc0 (fun k acc s1 => ∃ l : List Int, acc = zs l ∧ isOct l ∧ l.length = k ∧ Good s1) ⟨[], rfl, fun o ho => absurd ho (by simp), rfl, hg⟩ (fun k acc s1 x hx ⟨l, ha, hl, hk, hg1⟩ => ?_) fun acc s1 ⟨l, ha, hl, hk, hg1⟩ => ?_
  · have hkn : k < n := by have := (List.getElem?_eq_some_iff.mp hx).1; omega
    simp only [pd_put1, wO_some, w_bTrue, if_true, w_call, w_aC, w_aN, w_V, w_C, hb, wO_some, wO_none, pd_slV1, pd_slV2, pd_slV3, pd_slD, pd_slL, pd_frz1, pd_frz2, pd_frzA0, pd_frzA1, pd_frzA2, pd_frzA3, pd_frzs0, pd_frzs1, pd_frzs2, pd_retV1, pd_retV2, pd_retV3, pd_oneV, pd_intV, pd_strV, pd_boolP, pd_truN, pd_truB, pd_truI, pd_lst1, pd_lst2, pd_lst3, pd_tup, pd_seq1, pd_seq2, pd_seq3, pd_seq4, pd_it1, pd_it2, pd_it3, pd_it4, pd_thaw0, pd_thaw1, pd_thaw2, pd_sets0, pd_sets1, pd_sets2, pd_setV1, pd_setV2, pd_put1, pd_put2, pd_puts0, pd_puts1, Co.toD, List.getElem?_cons_zero, List.getElem?_cons_succ, List.set_cons_zero, List.set_cons_succ, List.length_cons, List.length_nil, Option.map_some, Option.map_none, Option.bind_some, if_true, if_false, Bool.false_eq_true, true_and, and_true, Bool.not_true, Bool.not_false, decide_true, decide_false, reduceIte]
    refine take_ok hg1 (by omega) (by omega) fun v s2 v0 v1 hg2 => ?_
    simp only [wO_some, wO_none, pd_slV1, pd_slV2, pd_slV3, pd_slD, pd_slL, pd_frz1, pd_frz2, pd_frzA0, pd_frzA1, pd_frzA2, pd_frzA3, pd_frzs0, pd_frzs1, pd_frzs2, pd_retV1, pd_retV2, pd_retV3, pd_oneV, pd_intV, pd_strV, pd_boolP, pd_truN, pd_truB, pd_truI, pd_lst1, pd_lst2, pd_lst3, pd_tup, pd_seq1, pd_seq2, pd_seq3, pd_seq4, pd_it1, pd_it2, pd_it3, pd_it4, pd_thaw0, pd_thaw1, pd_thaw2, pd_sets0, pd_sets1, pd_sets2, pd_setV1, pd_setV2, pd_put1, pd_put2, pd_puts0, pd_puts1, Co.toD, List.getElem?_cons_zero, List.getElem?_cons_succ, List.set_cons_zero, List.set_cons_succ, List.length_cons, List.length_nil, Option.map_some, Option.map_none, Option.bind_some, if_true, if_false, Bool.false_eq_true, true_and, and_true, Bool.not_true, Bool.not_false, decide_true, decide_false, reduceIte]
    subst ha
    refine ⟨by rw [List.length_map]; show l.length < 16777216; omega, l ++ [v], by rw [zs_app]; rfl, fun o ho => ?_, by simp [hk], hg2⟩
    rcases List.mem_append.mp ho with z | z
    · exact hl o z
    · rw [List.mem_singleton.mp z]; exact ⟨v0, v1⟩
  · subst ha
    exact h l s1 hl (by omega) hg1
theorem ends_pl (l : List Int) : plDs (zs l) = true := plDs_iff.mpr fun d hd => by
  obtain ⟨i, _, rfl⟩ := List.mem_map.mp hd
  rfl
theorem zs_psz : ∀ l : List Int, pszs (zs l) = l.length
  | [] => rfl
  | a :: l => by
    show psz (.int a) + pszs (zs l) = _
    rw [zs_psz l]
    simp [psz]; omega
theorem bend {whole b : List Int} {row : List Int} {at_ : Nat} (hw : whole = seal_ row) (hr : isOct row) (hb : isOct b) (hl : b.length = whole.length) (h : ∀ i, i < at_ ∨ at_ + 3 ≤ i → b[i]? = whole[i]?) : isSl b = decide (b = whole) := by
  have lw : whole.length = row.length + 4 := by rw [hw]; unfold seal_; simp [bytes]
  unfold isSl
  have h4 : 4 ≤ b.length := by omega
  simp only [h4, decide_true, Bool.true_and]
  rw [decide_eq_decide]
  have e1 : b.length - 4 = row.length := by omega
  rw [e1]
  constructor
  · intro hs
    have hx : b.take row.length = row := by
      refine near (x := b.take row.length) (y := bytes (chk (b.take row.length))) (k := at_) (fun o ho => hb o (List.mem_of_mem_take ho)) hr (by rw [List.length_take]; omega) rfl fun i hi => ?_
      have := h i hi
      rw [← hs, hw] at this
      exact this
    rw [← hs, hx, hw]
  · intro he
    rw [he, hw]
    have : (seal_ row).take row.length = row := by unfold seal_; rw [List.take_left]
    rw [this]
abbrev slot (e : PEnv) (sl2 sl3 sl4 sl5 sl6 sl7 sl8 sl9 sl10 sl11 sl12 : Sl) : Prop := e = [.no, .bag, sl2, sl3, sl4, sl5, sl6, sl7, sl8, sl9, sl10, sl11, sl12]
theorem law_ok (s : Bg) (hg : Good s) : ∃ e' s', q_law (startLaw 13 1) s = .go (.rt (.d (.bool true))) e' s' := by
  refine law_of ?_
  have e : startLaw 13 1 = [.no, .bag, .no, .no, .no, .no, .no, .no, .no, .no, .no, .no, .no] := rfl
  rw [e]
  unfold q_law
  rw [w_seq]
  simp only [w_for, w_iR1, w_aC, w_C, w_aN, wO_ran1, wO_some, wO_none, pd_slV1, pd_slV2, pd_slV3, pd_slD, pd_slL, pd_frz1, pd_frz2, pd_frzA0, pd_frzA1, pd_frzA2, pd_frzA3, pd_frzs0, pd_frzs1, pd_frzs2, pd_retV1, pd_retV2, pd_retV3, pd_oneV, pd_intV, pd_strV, pd_boolP, pd_truN, pd_truB, pd_truI, pd_lst1, pd_lst2, pd_lst3, pd_tup, pd_seq1, pd_seq2, pd_seq3, pd_seq4, pd_it1, pd_it2, pd_it3, pd_it4, pd_thaw0, pd_thaw1, pd_thaw2, pd_sets0, pd_sets1, pd_sets2, pd_setV1, pd_setV2, pd_put1, pd_put2, pd_puts0, pd_puts1, Co.toD, List.getElem?_cons_zero, List.getElem?_cons_succ, List.set_cons_zero, List.set_cons_succ, List.length_cons, List.length_nil, Option.map_some, Option.map_none, Option.bind_some, if_true, if_false, Bool.false_eq_true, true_and, and_true, Bool.not_true, Bool.not_false, decide_true, decide_false, reduceIte]
  refine ⟨by decide, ?_⟩
  refine w_for0 (fun _ e s1 => (∃ sl2 sl3 sl4 sl5 sl6 sl7 sl8 sl9 sl10 sl11 sl12, slot e sl2 sl3 sl4 sl5 sl6 sl7 sl8 sl9 sl10 sl11 sl12) ∧ Good s1) ⟨⟨_, _, _, _, _, _, _, _, _, _, _, rfl⟩, hg⟩ ?_ ?_
  · rintro k e s1 x hx ⟨⟨sl2, sl3, sl4, sl5, sl6, sl7, sl8, sl9, sl10, sl11, sl12, rfl⟩, hg1⟩
    simp only [wO_some, wO_none, pd_slV1, pd_slV2, pd_slV3, pd_slD, pd_slL, pd_frz1, pd_frz2, pd_frzA0, pd_frzA1, pd_frzA2, pd_frzA3, pd_frzs0, pd_frzs1, pd_frzs2, pd_retV1, pd_retV2, pd_retV3, pd_oneV, pd_intV, pd_strV, pd_boolP, pd_truN, pd_truB, pd_truI, pd_lst1, pd_lst2, pd_lst3, pd_tup, pd_seq1, pd_seq2, pd_seq3, pd_seq4, pd_it1, pd_it2, pd_it3, pd_it4, pd_thaw0, pd_thaw1, pd_thaw2, pd_sets0, pd_sets1, pd_sets2, pd_setV1, pd_setV2, pd_put1, pd_put2, pd_puts0, pd_puts1, Co.toD, List.getElem?_cons_zero, List.getElem?_cons_succ, List.set_cons_zero, List.set_cons_succ, List.length_cons, List.length_nil, Option.map_some, Option.map_none, Option.bind_some, if_true, if_false, Bool.false_eq_true, true_and, and_true, Bool.not_true, Bool.not_false, decide_true, decide_false, reduceIte]
    -- the number
    simp only [w_seq, w_setF, w_call, w_aC, w_aN, w_V, w_N, w_C, w_2, wO_some, wO_none, pd_slV1, pd_slV2, pd_slV3, pd_slD, pd_slL, pd_frz1, pd_frz2, pd_frzA0, pd_frzA1, pd_frzA2, pd_frzA3, pd_frzs0, pd_frzs1, pd_frzs2, pd_retV1, pd_retV2, pd_retV3, pd_oneV, pd_intV, pd_strV, pd_boolP, pd_truN, pd_truB, pd_truI, pd_lst1, pd_lst2, pd_lst3, pd_tup, pd_seq1, pd_seq2, pd_seq3, pd_seq4, pd_it1, pd_it2, pd_it3, pd_it4, pd_thaw0, pd_thaw1, pd_thaw2, pd_sets0, pd_sets1, pd_sets2, pd_setV1, pd_setV2, pd_put1, pd_put2, pd_puts0, pd_puts1, Co.toD, List.getElem?_cons_zero, List.getElem?_cons_succ, List.set_cons_zero, List.set_cons_succ, List.length_cons, List.length_nil, Option.map_some, Option.map_none, Option.bind_some, if_true, if_false, Bool.false_eq_true, true_and, and_true, Bool.not_true, Bool.not_false, decide_true, decide_false, reduceIte]
    refine take_ok hg1 (by omega) (by omega) fun v1 s2 v10 v11 hg2 => ?_
    simp only [o_pow, wO_some, wO_none, pd_slV1, pd_slV2, pd_slV3, pd_slD, pd_slL, pd_frz1, pd_frz2, pd_frzA0, pd_frzA1, pd_frzA2, pd_frzA3, pd_frzs0, pd_frzs1, pd_frzs2, pd_retV1, pd_retV2, pd_retV3, pd_oneV, pd_intV, pd_strV, pd_boolP, pd_truN, pd_truB, pd_truI, pd_lst1, pd_lst2, pd_lst3, pd_tup, pd_seq1, pd_seq2, pd_seq3, pd_seq4, pd_it1, pd_it2, pd_it3, pd_it4, pd_thaw0, pd_thaw1, pd_thaw2, pd_sets0, pd_sets1, pd_sets2, pd_setV1, pd_setV2, pd_put1, pd_put2, pd_puts0, pd_puts1, Co.toD, List.getElem?_cons_zero, List.getElem?_cons_succ, List.set_cons_zero, List.set_cons_succ, List.length_cons, List.length_nil, Option.map_some, Option.map_none, Option.bind_some, if_true, if_false, Bool.false_eq_true, true_and, and_true, Bool.not_true, Bool.not_false, decide_true, decide_false, reduceIte]
    refine ⟨by decide, ?_⟩
    refine take_ok hg2 (by decide) (by decide) fun v2 s3 v20 v21 hg3 => ?_
    refine ⟨by decide, by decide, ?_⟩
    refine take_ok hg3 (by decide) (by decide) fun v3 s4 v30 v31 hg4 => ?_
    simp only [o_add, o_lst, wO_some, wO_none, pd_slV1, pd_slV2, pd_slV3, pd_slD, pd_slL, pd_frz1, pd_frz2, pd_frzA0, pd_frzA1, pd_frzA2, pd_frzA3, pd_frzs0, pd_frzs1, pd_frzs2, pd_retV1, pd_retV2, pd_retV3, pd_oneV, pd_intV, pd_strV, pd_boolP, pd_truN, pd_truB, pd_truI, pd_lst1, pd_lst2, pd_lst3, pd_tup, pd_seq1, pd_seq2, pd_seq3, pd_seq4, pd_it1, pd_it2, pd_it3, pd_it4, pd_thaw0, pd_thaw1, pd_thaw2, pd_sets0, pd_sets1, pd_sets2, pd_setV1, pd_setV2, pd_put1, pd_put2, pd_puts0, pd_puts1, Co.toD, List.getElem?_cons_zero, List.getElem?_cons_succ, List.set_cons_zero, List.set_cons_succ, List.length_cons, List.length_nil, Option.map_some, Option.map_none, Option.bind_some, if_true, if_false, Bool.false_eq_true, true_and, and_true, Bool.not_true, Bool.not_false, decide_true, decide_false, reduceIte]
    refine ⟨by decide, ?_⟩
    refine some_ok (xs := [.int v1, .int v2, .int 128, .int 16384, .int (10 ^ Int.toNat 60 + v3)]) hg4 rfl (by show 0 < 5; decide) (by show 5 < 1073741824; decide) fun k y s5 hy hg5 => ?_
    obtain ⟨n, rfl, hn⟩ : ∃ n : Nat, y = .int n ∧ n < 128 ^ 90 := by
      have big : (10 : Int) ^ Int.toNat 9 < 128 ^ 90 := by decide
      have big2 : (10 : Int) ^ Int.toNat 60 + 10 ^ Int.toNat 9 < 128 ^ 90 := by decide
      have h60 : (0 : Int) ≤ 10 ^ Int.toNat 60 := by decide
      have nat : ∀ v : Int, 0 ≤ v → v < 128 ^ 90 → ∃ n : Nat, PyData.int v = .int n ∧ n < 128 ^ 90 := fun v h0 h1 => ⟨v.toNat, by rw [Int.toNat_of_nonneg h0], by
        have : ((v.toNat : Nat) : Int) < ((128 ^ 90 : Nat) : Int) := by rw [Int.toNat_of_nonneg h0]; exact h1
        exact Int.ofNat_lt.mp this⟩
      match k, hy with
      | 0, hy => cases hy; exact nat _ v10 (Int.lt_trans v11 (by decide))
      | 1, hy => cases hy; exact nat _ v20 (Int.lt_trans v21 big)
      | 2, hy => cases hy; exact nat _ (by decide) (by decide)
      | 3, hy => cases hy; exact nat _ (by decide) (by decide)
      | 4, hy => cases hy; exact nat _ (by omega) (Int.lt_trans (Int.add_lt_add_left v31 _) big2)
      | k + 5, hy => simp at hy
    simp only [wO_some, wO_none, pd_slV1, pd_slV2, pd_slV3, pd_slD, pd_slL, pd_frz1, pd_frz2, pd_frzA0, pd_frzA1, pd_frzA2, pd_frzA3, pd_frzs0, pd_frzs1, pd_frzs2, pd_retV1, pd_retV2, pd_retV3, pd_oneV, pd_intV, pd_strV, pd_boolP, pd_truN, pd_truB, pd_truI, pd_lst1, pd_lst2, pd_lst3, pd_tup, pd_seq1, pd_seq2, pd_seq3, pd_seq4, pd_it1, pd_it2, pd_it3, pd_it4, pd_thaw0, pd_thaw1, pd_thaw2, pd_sets0, pd_sets1, pd_sets2, pd_setV1, pd_setV2, pd_put1, pd_put2, pd_puts0, pd_puts1, Co.toD, List.getElem?_cons_zero, List.getElem?_cons_succ, List.set_cons_zero, List.set_cons_succ, List.length_cons, List.length_nil, Option.map_some, Option.map_none, Option.bind_some, if_true, if_false, Bool.false_eq_true, true_and, and_true, Bool.not_true, Bool.not_false, decide_true, decide_false, reduceIte]
    rw [wE_eq (num_law hn)]
    simp only [wO_some, wO_none, pd_slV1, pd_slV2, pd_slV3, pd_slD, pd_slL, pd_frz1, pd_frz2, pd_frzA0, pd_frzA1, pd_frzA2, pd_frzA3, pd_frzs0, pd_frzs1, pd_frzs2, pd_retV1, pd_retV2, pd_retV3, pd_oneV, pd_intV, pd_strV, pd_boolP, pd_truN, pd_truB, pd_truI, pd_lst1, pd_lst2, pd_lst3, pd_tup, pd_seq1, pd_seq2, pd_seq3, pd_seq4, pd_it1, pd_it2, pd_it3, pd_it4, pd_thaw0, pd_thaw1, pd_thaw2, pd_sets0, pd_sets1, pd_sets2, pd_setV1, pd_setV2, pd_put1, pd_put2, pd_puts0, pd_puts1, Co.toD, List.getElem?_cons_zero, List.getElem?_cons_succ, List.set_cons_zero, List.set_cons_succ, List.length_cons, List.length_nil, Option.map_some, Option.map_none, Option.bind_some, if_true, if_false, Bool.false_eq_true, true_and, and_true, Bool.not_true, Bool.not_false, decide_true, decide_false, reduceIte]
    -- what stands ahead
    simp only [w_Lc, w_iR1, w_call, w_aC, w_aN, w_V, w_C, wO_some, wO_none, pd_slV1, pd_slV2, pd_slV3, pd_slD, pd_slL, pd_frz1, pd_frz2, pd_frzA0, pd_frzA1, pd_frzA2, pd_frzA3, pd_frzs0, pd_frzs1, pd_frzs2, pd_retV1, pd_retV2, pd_retV3, pd_oneV, pd_intV, pd_strV, pd_boolP, pd_truN, pd_truB, pd_truI, pd_lst1, pd_lst2, pd_lst3, pd_tup, pd_seq1, pd_seq2, pd_seq3, pd_seq4, pd_it1, pd_it2, pd_it3, pd_it4, pd_thaw0, pd_thaw1, pd_thaw2, pd_sets0, pd_sets1, pd_sets2, pd_setV1, pd_setV2, pd_put1, pd_put2, pd_puts0, pd_puts1, Co.toD, List.getElem?_cons_zero, List.getElem?_cons_succ, List.set_cons_zero, List.set_cons_succ, List.length_cons, List.length_nil, Option.map_some, Option.map_none, Option.bind_some, if_true, if_false, Bool.false_eq_true, true_and, and_true, Bool.not_true, Bool.not_false, decide_true, decide_false, reduceIte]
    refine take_ok hg5 (by decide) (by decide) fun v4 s6 v40 v41 hg6 => ?_
    obtain ⟨m4, rfl⟩ : ∃ m : Nat, v4 = (m : Int) := ⟨v4.toNat, by omega⟩
    simp only [wO_ran1, Int.toNat_natCast]
    refine ⟨decide_eq_true (by omega), ?_⟩
    refine draws (by omega) hg6 (fun x => rfl) fun A s7 hA hlA hg7 => ?_
    simp only [o_tuple, wO_some, wO_none, pd_slV1, pd_slV2, pd_slV3, pd_slD, pd_slL, pd_frz1, pd_frz2, pd_frzA0, pd_frzA1, pd_frzA2, pd_frzA3, pd_frzs0, pd_frzs1, pd_frzs2, pd_retV1, pd_retV2, pd_retV3, pd_oneV, pd_intV, pd_strV, pd_boolP, pd_truN, pd_truB, pd_truI, pd_lst1, pd_lst2, pd_lst3, pd_tup, pd_seq1, pd_seq2, pd_seq3, pd_seq4, pd_it1, pd_it2, pd_it3, pd_it4, pd_thaw0, pd_thaw1, pd_thaw2, pd_sets0, pd_sets1, pd_sets2, pd_setV1, pd_setV2, pd_put1, pd_put2, pd_puts0, pd_puts1, Co.toD, List.getElem?_cons_zero, List.getElem?_cons_succ, List.set_cons_zero, List.set_cons_succ, List.length_cons, List.length_nil, Option.map_some, Option.map_none, Option.bind_some, if_true, if_false, Bool.false_eq_true, true_and, and_true, Bool.not_true, Bool.not_false, decide_true, decide_false, reduceIte]
    have hol := octs_len 89 n hn
    have hop := octs_pos n
    -- told
    simp only [w_N, w_aC, w_aN, w_call, w_V, w_2, w_C, wO_some, wO_none, pd_slV1, pd_slV2, pd_slV3, pd_slD, pd_slL, pd_frz1, pd_frz2, pd_frzA0, pd_frzA1, pd_frzA2, pd_frzA3, pd_frzs0, pd_frzs1, pd_frzs2, pd_retV1, pd_retV2, pd_retV3, pd_oneV, pd_intV, pd_strV, pd_boolP, pd_truN, pd_truB, pd_truI, pd_lst1, pd_lst2, pd_lst3, pd_tup, pd_seq1, pd_seq2, pd_seq3, pd_seq4, pd_it1, pd_it2, pd_it3, pd_it4, pd_thaw0, pd_thaw1, pd_thaw2, pd_sets0, pd_sets1, pd_sets2, pd_setV1, pd_setV2, pd_put1, pd_put2, pd_puts0, pd_puts1, Co.toD, List.getElem?_cons_zero, List.getElem?_cons_succ, List.set_cons_zero, List.set_cons_succ, List.length_cons, List.length_nil, Option.map_some, Option.map_none, Option.bind_some, if_true, if_false, Bool.false_eq_true, true_and, and_true, Bool.not_true, Bool.not_false, decide_true, decide_false, reduceIte, o_catT, o_lenT, o_tup]
    rw [wE_eq (num_own hn)]
    refine ⟨by simp only [List.length_map]; show A.length + (octs n).length ≤ 16777216; omega, by decide, by simp only [List.length_append, List.length_map]; show A.length + (octs n).length + 1 ≤ 16777216; omega, ?_⟩
    have eA : zs A ++ zs (octs n) ++ [PyData.int 5] = zs (A ++ (octs n ++ [5])) := by rw [zs_app, zs_app, List.append_assoc]; rfl
    rw [eA, List.length_map, wE_eq (read_ok (A := A) (R := [5]) (n := n) hn (by simp; omega))]
    simp only [o_lst, wO_some, wO_none, pd_slV1, pd_slV2, pd_slV3, pd_slD, pd_slL, pd_frz1, pd_frz2, pd_frzA0, pd_frzA1, pd_frzA2, pd_frzA3, pd_frzs0, pd_frzs1, pd_frzs2, pd_retV1, pd_retV2, pd_retV3, pd_oneV, pd_intV, pd_strV, pd_boolP, pd_truN, pd_truB, pd_truI, pd_lst1, pd_lst2, pd_lst3, pd_tup, pd_seq1, pd_seq2, pd_seq3, pd_seq4, pd_it1, pd_it2, pd_it3, pd_it4, pd_thaw0, pd_thaw1, pd_thaw2, pd_sets0, pd_sets1, pd_sets2, pd_setV1, pd_setV2, pd_put1, pd_put2, pd_puts0, pd_puts1, Co.toD, List.getElem?_cons_zero, List.getElem?_cons_succ, List.set_cons_zero, List.set_cons_succ, List.length_cons, List.length_nil, Option.map_some, Option.map_none, Option.bind_some, if_true, if_false, Bool.false_eq_true, true_and, and_true, Bool.not_true, Bool.not_false, decide_true, decide_false, reduceIte]
    refine ⟨by decide, ?_⟩
    -- told and due are alike
    have plT : ∀ l, plD (.tuple (zs l)) = true := fun l => by rw [plD]; exact ends_pl l
    rw [w_ifS]
    simp only [w_bNot, w_bV, w_call, w_aC, w_aN, w_V, w_N, w_2, wO_some, wO_none, pd_slV1, pd_slV2, pd_slV3, pd_slD, pd_slL, pd_frz1, pd_frz2, pd_frzA0, pd_frzA1, pd_frzA2, pd_frzA3, pd_frzs0, pd_frzs1, pd_frzs2, pd_retV1, pd_retV2, pd_retV3, pd_oneV, pd_intV, pd_strV, pd_boolP, pd_truN, pd_truB, pd_truI, pd_lst1, pd_lst2, pd_lst3, pd_tup, pd_seq1, pd_seq2, pd_seq3, pd_seq4, pd_it1, pd_it2, pd_it3, pd_it4, pd_thaw0, pd_thaw1, pd_thaw2, pd_sets0, pd_sets1, pd_sets2, pd_setV1, pd_setV2, pd_put1, pd_put2, pd_puts0, pd_puts1, Co.toD, List.getElem?_cons_zero, List.getElem?_cons_succ, List.set_cons_zero, List.set_cons_succ, List.length_cons, List.length_nil, Option.map_some, Option.map_none, Option.bind_some, if_true, if_false, Bool.false_eq_true, true_and, and_true, Bool.not_true, Bool.not_false, decide_true, decide_false, reduceIte, o_lenT, o_add, o_tup, o_lst, List.length_map]
    refine ⟨by decide, by decide, ?_⟩
    have ec : ((A.length : Int) + ((octs n).length : Int)) = ((A.length + (octs n).length : Nat) : Int) := by omega
    rw [ec, wE_eq (alike_self (by simp [plD, plDs, ends_pl]) (by simp only [psz, pszs, zs_psz]; show _ ≤ 16777216; omega))]
    simp only [wO_some, wO_none, pd_slV1, pd_slV2, pd_slV3, pd_slD, pd_slL, pd_frz1, pd_frz2, pd_frzA0, pd_frzA1, pd_frzA2, pd_frzA3, pd_frzs0, pd_frzs1, pd_frzs2, pd_retV1, pd_retV2, pd_retV3, pd_oneV, pd_intV, pd_strV, pd_boolP, pd_truN, pd_truB, pd_truI, pd_lst1, pd_lst2, pd_lst3, pd_tup, pd_seq1, pd_seq2, pd_seq3, pd_seq4, pd_it1, pd_it2, pd_it3, pd_it4, pd_thaw0, pd_thaw1, pd_thaw2, pd_sets0, pd_sets1, pd_sets2, pd_setV1, pd_setV2, pd_put1, pd_put2, pd_puts0, pd_puts1, Co.toD, List.getElem?_cons_zero, List.getElem?_cons_succ, List.set_cons_zero, List.set_cons_succ, List.length_cons, List.length_nil, Option.map_some, Option.map_none, Option.bind_some, if_true, if_false, Bool.false_eq_true, true_and, and_true, Bool.not_true, Bool.not_false, decide_true, decide_false, reduceIte, w_nop]
    -- cut short
    rw [w_ifS]
    simp only [w_b2, w_lam, w_N, w_aC, w_aN, w_V, w_C, wO_some, wO_none, pd_slV1, pd_slV2, pd_slV3, pd_slD, pd_slL, pd_frz1, pd_frz2, pd_frzA0, pd_frzA1, pd_frzA2, pd_frzA3, pd_frzs0, pd_frzs1, pd_frzs2, pd_retV1, pd_retV2, pd_retV3, pd_oneV, pd_intV, pd_strV, pd_boolP, pd_truN, pd_truB, pd_truI, pd_lst1, pd_lst2, pd_lst3, pd_tup, pd_seq1, pd_seq2, pd_seq3, pd_seq4, pd_it1, pd_it2, pd_it3, pd_it4, pd_thaw0, pd_thaw1, pd_thaw2, pd_sets0, pd_sets1, pd_sets2, pd_setV1, pd_setV2, pd_put1, pd_put2, pd_puts0, pd_puts1, Co.toD, List.getElem?_cons_zero, List.getElem?_cons_succ, List.set_cons_zero, List.set_cons_succ, List.length_cons, List.length_nil, Option.map_some, Option.map_none, Option.bind_some, if_true, if_false, Bool.false_eq_true, true_and, and_true, Bool.not_true, Bool.not_false, decide_true, decide_false, reduceIte, o_tup]
    have call1 : ∀ (e : PEnv) (s : Bg), e[4]? = some (.d (.tuple (zs (octs n)))) → e[5]? = some (.d (.tuple (zs A))) → pCall 2 P_read_integer (paC (p2 pAdd (pV 5) (pSl (pV 4) oNoneP (oSomeP (p1 pNeg (pC (.int 1)))))) (paC (pN pLen (paC (pV 5) paN)) paN)) e s = .exc (pexOf "BadBytes" [("index", 0), ("fault", 1)] [.int A.length, .str "integer"]) s := by
      intro e s h4 h5
      have ed : (zs (octs n)).take ((octs n).length - 1) = zs (octs n).dropLast := by rw [← List.map_take, List.dropLast_eq_take]
      have ec1 : cutL (zs (octs n)) none (some (-1)) = zs (octs n).dropLast := by
        rw [← ed]
        unfold cutL HT.sIx
        simp only [List.drop_zero, Nat.sub_zero, List.length_map]
        rw [if_pos (by decide)]
        congr 1
        omega
      rw [call_eq (us := [.d (.tuple (zs (A ++ (octs n).dropLast))), .d (.int A.length)]) (s' := s) ?_]
      · exact read_cut (by omega) hn
      · simp only [w_aC, w_aN, w_2, w_V, w_N, w_Sl, w_oN, w_oS, w_1, w_C, h4, h5, wO_some, wO_none, pd_slV1, pd_slV2, pd_slV3, pd_slD, pd_slL, pd_frz1, pd_frz2, pd_frzA0, pd_frzA1, pd_frzA2, pd_frzA3, pd_frzs0, pd_frzs1, pd_frzs2, pd_retV1, pd_retV2, pd_retV3, pd_oneV, pd_intV, pd_strV, pd_boolP, pd_truN, pd_truB, pd_truI, pd_lst1, pd_lst2, pd_lst3, pd_tup, pd_seq1, pd_seq2, pd_seq3, pd_seq4, pd_it1, pd_it2, pd_it3, pd_it4, pd_thaw0, pd_thaw1, pd_thaw2, pd_sets0, pd_sets1, pd_sets2, pd_setV1, pd_setV2, pd_put1, pd_put2, pd_puts0, pd_puts1, Co.toD, List.getElem?_cons_zero, List.getElem?_cons_succ, List.set_cons_zero, List.set_cons_succ, List.length_cons, List.length_nil, Option.map_some, Option.map_none, Option.bind_some, if_true, if_false, Bool.false_eq_true, true_and, and_true, Bool.not_true, Bool.not_false, decide_true, decide_false, reduceIte, o_neg, o_cutT, ec1, o_catT, o_lenT, List.length_map]
        refine ⟨by rw [List.length_dropLast]; show A.length + ((octs n).length - 1) ≤ 16777216; omega, ?_⟩
        rw [zs_app]
    rw [call1 _ _ rfl rfl]
    have shB : ∀ i : Int, SeqAt.shaped (.tuple [.str "bytes", .int i, .str "integer"]) = true := fun i => by
      have e1 : PyData.strOk "bytes" = true := by decide +kernel
      have e2 : PyData.strOk "integer" = true := by decide +kernel
      simp [SeqAt.shaped, PyData.canLay0, PyData.canLayAll0, PyData.depth, PyData.depthAll, e1, e2]
    rw [wE_eq (deed_exc rfl)]
    simp only [wO_some, wO_none, pd_slV1, pd_slV2, pd_slV3, pd_slD, pd_slL, pd_frz1, pd_frz2, pd_frzA0, pd_frzA1, pd_frzA2, pd_frzA3, pd_frzs0, pd_frzs1, pd_frzs2, pd_retV1, pd_retV2, pd_retV3, pd_oneV, pd_intV, pd_strV, pd_boolP, pd_truN, pd_truB, pd_truI, pd_lst1, pd_lst2, pd_lst3, pd_tup, pd_seq1, pd_seq2, pd_seq3, pd_seq4, pd_it1, pd_it2, pd_it3, pd_it4, pd_thaw0, pd_thaw1, pd_thaw2, pd_sets0, pd_sets1, pd_sets2, pd_setV1, pd_setV2, pd_put1, pd_put2, pd_puts0, pd_puts1, Co.toD, List.getElem?_cons_zero, List.getElem?_cons_succ, List.set_cons_zero, List.set_cons_succ, List.length_cons, List.length_nil, Option.map_some, Option.map_none, Option.bind_some, if_true, if_false, Bool.false_eq_true, true_and, and_true, Bool.not_true, Bool.not_false, decide_true, decide_false, reduceIte, o_lenT, List.length_map]
    refine ⟨by decide, ?_⟩
    rw [o_ne_self (x := .tuple [.str "bytes", .int A.length, .str "integer"]) rfl rfl rfl (shB _)]
    simp only [wO_some, wO_none, pd_slV1, pd_slV2, pd_slV3, pd_slD, pd_slL, pd_frz1, pd_frz2, pd_frzA0, pd_frzA1, pd_frzA2, pd_frzA3, pd_frzs0, pd_frzs1, pd_frzs2, pd_retV1, pd_retV2, pd_retV3, pd_oneV, pd_intV, pd_strV, pd_boolP, pd_truN, pd_truB, pd_truI, pd_lst1, pd_lst2, pd_lst3, pd_tup, pd_seq1, pd_seq2, pd_seq3, pd_seq4, pd_it1, pd_it2, pd_it3, pd_it4, pd_thaw0, pd_thaw1, pd_thaw2, pd_sets0, pd_sets1, pd_sets2, pd_setV1, pd_setV2, pd_put1, pd_put2, pd_puts0, pd_puts1, Co.toD, List.getElem?_cons_zero, List.getElem?_cons_succ, List.set_cons_zero, List.set_cons_succ, List.length_cons, List.length_nil, Option.map_some, Option.map_none, Option.bind_some, if_true, if_false, Bool.false_eq_true, true_and, and_true, Bool.not_true, Bool.not_false, decide_true, decide_false, reduceIte, w_nop]
    -- two octets of which the second is nothing
    rw [w_ifS]
    simp only [w_b2, w_lam, w_N, w_aC, w_aN, w_V, w_C, wO_some, wO_none, pd_slV1, pd_slV2, pd_slV3, pd_slD, pd_slL, pd_frz1, pd_frz2, pd_frzA0, pd_frzA1, pd_frzA2, pd_frzA3, pd_frzs0, pd_frzs1, pd_frzs2, pd_retV1, pd_retV2, pd_retV3, pd_oneV, pd_intV, pd_strV, pd_boolP, pd_truN, pd_truB, pd_truI, pd_lst1, pd_lst2, pd_lst3, pd_tup, pd_seq1, pd_seq2, pd_seq3, pd_seq4, pd_it1, pd_it2, pd_it3, pd_it4, pd_thaw0, pd_thaw1, pd_thaw2, pd_sets0, pd_sets1, pd_sets2, pd_setV1, pd_setV2, pd_put1, pd_put2, pd_puts0, pd_puts1, Co.toD, List.getElem?_cons_zero, List.getElem?_cons_succ, List.set_cons_zero, List.set_cons_succ, List.length_cons, List.length_nil, Option.map_some, Option.map_none, Option.bind_some, if_true, if_false, Bool.false_eq_true, true_and, and_true, Bool.not_true, Bool.not_false, decide_true, decide_false, reduceIte, o_tup]
    rw [call_eq (us := [.d (.tuple (zs [128, 0])), .d (.int 0)]) (s' := s7) (by simp only [w_aC, w_aN, w_N, w_C, wO_some, wO_none, pd_slV1, pd_slV2, pd_slV3, pd_slD, pd_slL, pd_frz1, pd_frz2, pd_frzA0, pd_frzA1, pd_frzA2, pd_frzA3, pd_frzs0, pd_frzs1, pd_frzs2, pd_retV1, pd_retV2, pd_retV3, pd_oneV, pd_intV, pd_strV, pd_boolP, pd_truN, pd_truB, pd_truI, pd_lst1, pd_lst2, pd_lst3, pd_tup, pd_seq1, pd_seq2, pd_seq3, pd_seq4, pd_it1, pd_it2, pd_it3, pd_it4, pd_thaw0, pd_thaw1, pd_thaw2, pd_sets0, pd_sets1, pd_sets2, pd_setV1, pd_setV2, pd_put1, pd_put2, pd_puts0, pd_puts1, Co.toD, List.getElem?_cons_zero, List.getElem?_cons_succ, List.set_cons_zero, List.set_cons_succ, List.length_cons, List.length_nil, Option.map_some, Option.map_none, Option.bind_some, if_true, if_false, Bool.false_eq_true, true_and, and_true, Bool.not_true, Bool.not_false, decide_true, decide_false, reduceIte, o_tup]; exact ⟨by decide, rfl⟩), wE_eq (deed_exc read_zero)]
    refine ⟨by decide, ?_⟩
    rw [o_ne_self (x := .tuple [.str "bytes", .int 0, .str "integer"]) rfl rfl rfl (shB _)]
    simp only [wO_some, wO_none, pd_slV1, pd_slV2, pd_slV3, pd_slD, pd_slL, pd_frz1, pd_frz2, pd_frzA0, pd_frzA1, pd_frzA2, pd_frzA3, pd_frzs0, pd_frzs1, pd_frzs2, pd_retV1, pd_retV2, pd_retV3, pd_oneV, pd_intV, pd_strV, pd_boolP, pd_truN, pd_truB, pd_truI, pd_lst1, pd_lst2, pd_lst3, pd_tup, pd_seq1, pd_seq2, pd_seq3, pd_seq4, pd_it1, pd_it2, pd_it3, pd_it4, pd_thaw0, pd_thaw1, pd_thaw2, pd_sets0, pd_sets1, pd_sets2, pd_setV1, pd_setV2, pd_put1, pd_put2, pd_puts0, pd_puts1, Co.toD, List.getElem?_cons_zero, List.getElem?_cons_succ, List.set_cons_zero, List.set_cons_succ, List.length_cons, List.length_nil, Option.map_some, Option.map_none, Option.bind_some, if_true, if_false, Bool.false_eq_true, true_and, and_true, Bool.not_true, Bool.not_false, decide_true, decide_false, reduceIte, w_nop]
    -- a row, sealed
    refine take_ok hg7 (by decide) (by decide) fun v5 s8 v50 v51 hg8 => ?_
    obtain ⟨m5, rfl⟩ : ∃ m : Nat, v5 = (m : Int) := ⟨v5.toNat, by omega⟩
    simp only [wO_ran1, Int.toNat_natCast]
    refine ⟨decide_eq_true (by omega), ?_⟩
    refine draws (by omega) hg8 (fun x => rfl) fun row s9 hrow hlr hg9 => ?_
    rw [wE_eq (seal_law (by omega))]
    simp only [wO_some, wO_none, pd_slV1, pd_slV2, pd_slV3, pd_slD, pd_slL, pd_frz1, pd_frz2, pd_frzA0, pd_frzA1, pd_frzA2, pd_frzA3, pd_frzs0, pd_frzs1, pd_frzs2, pd_retV1, pd_retV2, pd_retV3, pd_oneV, pd_intV, pd_strV, pd_boolP, pd_truN, pd_truB, pd_truI, pd_lst1, pd_lst2, pd_lst3, pd_tup, pd_seq1, pd_seq2, pd_seq3, pd_seq4, pd_it1, pd_it2, pd_it3, pd_it4, pd_thaw0, pd_thaw1, pd_thaw2, pd_sets0, pd_sets1, pd_sets2, pd_setV1, pd_setV2, pd_put1, pd_put2, pd_puts0, pd_puts1, Co.toD, List.getElem?_cons_zero, List.getElem?_cons_succ, List.set_cons_zero, List.set_cons_succ, List.length_cons, List.length_nil, Option.map_some, Option.map_none, Option.bind_some, if_true, if_false, Bool.false_eq_true, true_and, and_true, Bool.not_true, Bool.not_false, decide_true, decide_false, reduceIte]
    have lw : (seal_ row).length = row.length + 4 := by unfold seal_; simp [bytes]
    have tk : (seal_ row).take row.length = row := by unfold seal_; rw [List.take_left]
    have isw : isSl (seal_ row) = true := by
      unfold isSl
      rw [lw, Nat.add_sub_cancel, tk]
      simp
    -- checks, seals
    rw [w_ifS]
    simp only [w_bNot, w_bV, w_call, w_aC, w_aN, w_V, w_N, w_C, wO_some, wO_none, pd_slV1, pd_slV2, pd_slV3, pd_slD, pd_slL, pd_frz1, pd_frz2, pd_frzA0, pd_frzA1, pd_frzA2, pd_frzA3, pd_frzs0, pd_frzs1, pd_frzs2, pd_retV1, pd_retV2, pd_retV3, pd_oneV, pd_intV, pd_strV, pd_boolP, pd_truN, pd_truB, pd_truI, pd_lst1, pd_lst2, pd_lst3, pd_tup, pd_seq1, pd_seq2, pd_seq3, pd_seq4, pd_it1, pd_it2, pd_it3, pd_it4, pd_thaw0, pd_thaw1, pd_thaw2, pd_sets0, pd_sets1, pd_sets2, pd_setV1, pd_setV2, pd_put1, pd_put2, pd_puts0, pd_puts1, Co.toD, List.getElem?_cons_zero, List.getElem?_cons_succ, List.set_cons_zero, List.set_cons_succ, List.length_cons, List.length_nil, Option.map_some, Option.map_none, Option.bind_some, if_true, if_false, Bool.false_eq_true, true_and, and_true, Bool.not_true, Bool.not_false, decide_true, decide_false, reduceIte, o_lst]
    rw [wE_eq chk_own]
    simp only [wO_some, wO_none, pd_slV1, pd_slV2, pd_slV3, pd_slD, pd_slL, pd_frz1, pd_frz2, pd_frzA0, pd_frzA1, pd_frzA2, pd_frzA3, pd_frzs0, pd_frzs1, pd_frzs2, pd_retV1, pd_retV2, pd_retV3, pd_oneV, pd_intV, pd_strV, pd_boolP, pd_truN, pd_truB, pd_truI, pd_lst1, pd_lst2, pd_lst3, pd_tup, pd_seq1, pd_seq2, pd_seq3, pd_seq4, pd_it1, pd_it2, pd_it3, pd_it4, pd_thaw0, pd_thaw1, pd_thaw2, pd_sets0, pd_sets1, pd_sets2, pd_setV1, pd_setV2, pd_put1, pd_put2, pd_puts0, pd_puts1, Co.toD, List.getElem?_cons_zero, List.getElem?_cons_succ, List.set_cons_zero, List.set_cons_succ, List.length_cons, List.length_nil, Option.map_some, Option.map_none, Option.bind_some, if_true, if_false, Bool.false_eq_true, true_and, and_true, Bool.not_true, Bool.not_false, decide_true, decide_false, reduceIte]
    rw [wE_eq (seal_own (by omega))]
    simp only [wO_some, wO_none, pd_slV1, pd_slV2, pd_slV3, pd_slD, pd_slL, pd_frz1, pd_frz2, pd_frzA0, pd_frzA1, pd_frzA2, pd_frzA3, pd_frzs0, pd_frzs1, pd_frzs2, pd_retV1, pd_retV2, pd_retV3, pd_oneV, pd_intV, pd_strV, pd_boolP, pd_truN, pd_truB, pd_truI, pd_lst1, pd_lst2, pd_lst3, pd_tup, pd_seq1, pd_seq2, pd_seq3, pd_seq4, pd_it1, pd_it2, pd_it3, pd_it4, pd_thaw0, pd_thaw1, pd_thaw2, pd_sets0, pd_sets1, pd_sets2, pd_setV1, pd_setV2, pd_put1, pd_put2, pd_puts0, pd_puts1, Co.toD, List.getElem?_cons_zero, List.getElem?_cons_succ, List.set_cons_zero, List.set_cons_succ, List.length_cons, List.length_nil, Option.map_some, Option.map_none, Option.bind_some, if_true, if_false, Bool.false_eq_true, true_and, and_true, Bool.not_true, Bool.not_false, decide_true, decide_false, reduceIte]
    rw [wE_eq (isSl_own (by omega)), isw]
    simp only [wO_some, wO_none, pd_slV1, pd_slV2, pd_slV3, pd_slD, pd_slL, pd_frz1, pd_frz2, pd_frzA0, pd_frzA1, pd_frzA2, pd_frzA3, pd_frzs0, pd_frzs1, pd_frzs2, pd_retV1, pd_retV2, pd_retV3, pd_oneV, pd_intV, pd_strV, pd_boolP, pd_truN, pd_truB, pd_truI, pd_lst1, pd_lst2, pd_lst3, pd_tup, pd_seq1, pd_seq2, pd_seq3, pd_seq4, pd_it1, pd_it2, pd_it3, pd_it4, pd_thaw0, pd_thaw1, pd_thaw2, pd_sets0, pd_sets1, pd_sets2, pd_setV1, pd_setV2, pd_put1, pd_put2, pd_puts0, pd_puts1, Co.toD, List.getElem?_cons_zero, List.getElem?_cons_succ, List.set_cons_zero, List.set_cons_succ, List.length_cons, List.length_nil, Option.map_some, Option.map_none, Option.bind_some, if_true, if_false, Bool.false_eq_true, true_and, and_true, Bool.not_true, Bool.not_false, decide_true, decide_false, reduceIte]
    refine ⟨by decide, ?_⟩
    rw [wE_eq chk_law]
    simp only [wO_some, wO_none, pd_slV1, pd_slV2, pd_slV3, pd_slD, pd_slL, pd_frz1, pd_frz2, pd_frzA0, pd_frzA1, pd_frzA2, pd_frzA3, pd_frzs0, pd_frzs1, pd_frzs2, pd_retV1, pd_retV2, pd_retV3, pd_oneV, pd_intV, pd_strV, pd_boolP, pd_truN, pd_truB, pd_truI, pd_lst1, pd_lst2, pd_lst3, pd_tup, pd_seq1, pd_seq2, pd_seq3, pd_seq4, pd_it1, pd_it2, pd_it3, pd_it4, pd_thaw0, pd_thaw1, pd_thaw2, pd_sets0, pd_sets1, pd_sets2, pd_setV1, pd_setV2, pd_put1, pd_put2, pd_puts0, pd_puts1, Co.toD, List.getElem?_cons_zero, List.getElem?_cons_succ, List.set_cons_zero, List.set_cons_succ, List.length_cons, List.length_nil, Option.map_some, Option.map_none, Option.bind_some, if_true, if_false, Bool.false_eq_true, true_and, and_true, Bool.not_true, Bool.not_false, decide_true, decide_false, reduceIte]
    refine ⟨by decide, ?_⟩
    rw [wE_eq (alike_self (by simp [plD, plDs, ends_pl]) (by simp only [psz, pszs, zs_psz]; show _ ≤ 16777216; omega))]
    simp only [wO_some, wO_none, pd_slV1, pd_slV2, pd_slV3, pd_slD, pd_slL, pd_frz1, pd_frz2, pd_frzA0, pd_frzA1, pd_frzA2, pd_frzA3, pd_frzs0, pd_frzs1, pd_frzs2, pd_retV1, pd_retV2, pd_retV3, pd_oneV, pd_intV, pd_strV, pd_boolP, pd_truN, pd_truB, pd_truI, pd_lst1, pd_lst2, pd_lst3, pd_tup, pd_seq1, pd_seq2, pd_seq3, pd_seq4, pd_it1, pd_it2, pd_it3, pd_it4, pd_thaw0, pd_thaw1, pd_thaw2, pd_sets0, pd_sets1, pd_sets2, pd_setV1, pd_setV2, pd_put1, pd_put2, pd_puts0, pd_puts1, Co.toD, List.getElem?_cons_zero, List.getElem?_cons_succ, List.set_cons_zero, List.set_cons_succ, List.length_cons, List.length_nil, Option.map_some, Option.map_none, Option.bind_some, if_true, if_false, Bool.false_eq_true, true_and, and_true, Bool.not_true, Bool.not_false, decide_true, decide_false, reduceIte, w_nop]
    -- bent in up to three neighbouring places
    simp only [o_lenT, wO_some, wO_none, pd_slV1, pd_slV2, pd_slV3, pd_slD, pd_slL, pd_frz1, pd_frz2, pd_frzA0, pd_frzA1, pd_frzA2, pd_frzA3, pd_frzs0, pd_frzs1, pd_frzs2, pd_retV1, pd_retV2, pd_retV3, pd_oneV, pd_intV, pd_strV, pd_boolP, pd_truN, pd_truB, pd_truI, pd_lst1, pd_lst2, pd_lst3, pd_tup, pd_seq1, pd_seq2, pd_seq3, pd_seq4, pd_it1, pd_it2, pd_it3, pd_it4, pd_thaw0, pd_thaw1, pd_thaw2, pd_sets0, pd_sets1, pd_sets2, pd_setV1, pd_setV2, pd_put1, pd_put2, pd_puts0, pd_puts1, Co.toD, List.getElem?_cons_zero, List.getElem?_cons_succ, List.set_cons_zero, List.set_cons_succ, List.length_cons, List.length_nil, Option.map_some, Option.map_none, Option.bind_some, if_true, if_false, Bool.false_eq_true, true_and, and_true, Bool.not_true, Bool.not_false, decide_true, decide_false, reduceIte, List.length_map]
    refine take_ok hg9 (by omega) (by omega) fun v6 s10 v60 v61 hg10 => ?_
    obtain ⟨at_, rfl⟩ : ∃ m : Nat, v6 = (m : Int) := ⟨v6.toNat, by omega⟩
    simp only [wO_some, wO_none, pd_slV1, pd_slV2, pd_slV3, pd_slD, pd_slL, pd_frz1, pd_frz2, pd_frzA0, pd_frzA1, pd_frzA2, pd_frzA3, pd_frzs0, pd_frzs1, pd_frzs2, pd_retV1, pd_retV2, pd_retV3, pd_oneV, pd_intV, pd_strV, pd_boolP, pd_truN, pd_truB, pd_truI, pd_lst1, pd_lst2, pd_lst3, pd_tup, pd_seq1, pd_seq2, pd_seq3, pd_seq4, pd_it1, pd_it2, pd_it3, pd_it4, pd_thaw0, pd_thaw1, pd_thaw2, pd_sets0, pd_sets1, pd_sets2, pd_setV1, pd_setV2, pd_put1, pd_put2, pd_puts0, pd_puts1, Co.toD, List.getElem?_cons_zero, List.getElem?_cons_succ, List.set_cons_zero, List.set_cons_succ, List.length_cons, List.length_nil, Option.map_some, Option.map_none, Option.bind_some, if_true, if_false, Bool.false_eq_true, true_and, and_true, Bool.not_true, Bool.not_false, decide_true, decide_false, reduceIte]
    rw [w_set]
    simp only [w_N, w_aC, w_aN, w_V, wO_some, wO_none, pd_slV1, pd_slV2, pd_slV3, pd_slD, pd_slL, pd_frz1, pd_frz2, pd_frzA0, pd_frzA1, pd_frzA2, pd_frzA3, pd_frzs0, pd_frzs1, pd_frzs2, pd_retV1, pd_retV2, pd_retV3, pd_oneV, pd_intV, pd_strV, pd_boolP, pd_truN, pd_truB, pd_truI, pd_lst1, pd_lst2, pd_lst3, pd_tup, pd_seq1, pd_seq2, pd_seq3, pd_seq4, pd_it1, pd_it2, pd_it3, pd_it4, pd_thaw0, pd_thaw1, pd_thaw2, pd_sets0, pd_sets1, pd_sets2, pd_setV1, pd_setV2, pd_put1, pd_put2, pd_puts0, pd_puts1, Co.toD, List.getElem?_cons_zero, List.getElem?_cons_succ, List.set_cons_zero, List.set_cons_succ, List.length_cons, List.length_nil, Option.map_some, Option.map_none, Option.bind_some, if_true, if_false, Bool.false_eq_true, true_and, and_true, Bool.not_true, Bool.not_false, decide_true, decide_false, reduceIte, o_list]
    rw [w_for]
    simp only [w_iR2, w_aC, w_aN, w_V, w_N, w_2, w_C, w_call, wO_some, wO_none, pd_slV1, pd_slV2, pd_slV3, pd_slD, pd_slL, pd_frz1, pd_frz2, pd_frzA0, pd_frzA1, pd_frzA2, pd_frzA3, pd_frzs0, pd_frzs1, pd_frzs2, pd_retV1, pd_retV2, pd_retV3, pd_oneV, pd_intV, pd_strV, pd_boolP, pd_truN, pd_truB, pd_truI, pd_lst1, pd_lst2, pd_lst3, pd_tup, pd_seq1, pd_seq2, pd_seq3, pd_seq4, pd_it1, pd_it2, pd_it3, pd_it4, pd_thaw0, pd_thaw1, pd_thaw2, pd_sets0, pd_sets1, pd_sets2, pd_setV1, pd_setV2, pd_put1, pd_put2, pd_puts0, pd_puts1, Co.toD, List.getElem?_cons_zero, List.getElem?_cons_succ, List.set_cons_zero, List.set_cons_succ, List.length_cons, List.length_nil, Option.map_some, Option.map_none, Option.bind_some, if_true, if_false, Bool.false_eq_true, true_and, and_true, Bool.not_true, Bool.not_false, decide_true, decide_false, reduceIte, o_lenT, o_add, List.length_map]
    refine take_okN hg10 (by omega) (by omega) fun w7 s11 v71 hg11 => ?_
    simp only [o_min2, o_add, wO_some, wO_none, pd_slV1, pd_slV2, pd_slV3, pd_slD, pd_slL, pd_frz1, pd_frz2, pd_frzA0, pd_frzA1, pd_frzA2, pd_frzA3, pd_frzs0, pd_frzs1, pd_frzs2, pd_retV1, pd_retV2, pd_retV3, pd_oneV, pd_intV, pd_strV, pd_boolP, pd_truN, pd_truB, pd_truI, pd_lst1, pd_lst2, pd_lst3, pd_tup, pd_seq1, pd_seq2, pd_seq3, pd_seq4, pd_it1, pd_it2, pd_it3, pd_it4, pd_thaw0, pd_thaw1, pd_thaw2, pd_sets0, pd_sets1, pd_sets2, pd_setV1, pd_setV2, pd_put1, pd_put2, pd_puts0, pd_puts1, Co.toD, List.getElem?_cons_zero, List.getElem?_cons_succ, List.set_cons_zero, List.set_cons_succ, List.length_cons, List.length_nil, Option.map_some, Option.map_none, Option.bind_some, if_true, if_false, Bool.false_eq_true, true_and, and_true, Bool.not_true, Bool.not_false, decide_true, decide_false, reduceIte, wO_ran2]
    obtain ⟨hi, ehi, hi1, hi2⟩ : ∃ hi : Nat, (if (at_ : Int) + 1 + (w7 : Int) < ((seal_ row).length : Int) then (at_ : Int) + 1 + (w7 : Int) else ((seal_ row).length : Int)) = (hi : Int) ∧ hi ≤ at_ + 3 ∧ hi ≤ (seal_ row).length := by
      by_cases hc : (at_ : Int) + 1 + (w7 : Int) < ((seal_ row).length : Int)
      · exact ⟨at_ + 1 + w7, by rw [if_pos hc]; omega, by omega, by omega⟩
      · exact ⟨(seal_ row).length, by rw [if_neg hc], by omega, by omega⟩
    rw [ehi]
    refine ⟨?_, ?_⟩
    · rw [Bool.and_eq_true]
      exact ⟨decide_eq_true (by omega), decide_eq_true (by omega)⟩
    have eN : ((hi : Int) - (at_ : Int)).toNat = hi - at_ := by omega
    rw [eN]
    refine w_for0 (fun k e s1 => ∃ (b : List Int) (sl11 : Sl), e = [.no, .bag, .d x, .d (.int n), .d (.tuple (zs (octs n))), .d (.tuple (zs A)), .d (.list [.tuple (zs (octs n)), .tuple [.int n, .int ((A.length + (octs n).length : Nat) : Int)]]), .d (.tuple (zs row)), .d (.tuple (zs (seal_ row))), .d (.int at_), .own (.l (zs b)), sl11, sl12] ∧ Good s1 ∧
      isOct b ∧ b.length = (seal_ row).length ∧ ∀ i, i < at_ ∨ at_ + 3 ≤ i → b[i]? = (seal_ row)[i]?) ⟨seal_ row, sl11, rfl, hg11, ?_, rfl, fun _ _ => rfl⟩ ?_ ?_
    · intro o ho
      unfold seal_ bytes at ho
      have := chk_in row
      rcases List.mem_append.mp ho with z | z
      · exact hrow o z
      · simp only [List.mem_cons, List.not_mem_nil, or_false] at z
        rcases z with z | z | z | z <;> rw [z] <;> omega
    · rintro j e s12 y hy ⟨b, sl11, rfl, hg12, hb, hlb, hbe⟩
      have hj : j < hi - at_ := by
        have := (List.getElem?_eq_some_iff.mp hy).1
        unfold intsP' at this
        simpa using this
      have hyv : y = .int ((at_ : Int) + (j : Int)) := by
        unfold intsP' at hy
        rw [List.getElem?_map, List.getElem?_range hj] at hy
        exact (Option.some.inj hy).symm
      subst hyv
      simp only [wO_some, wO_none, pd_slV1, pd_slV2, pd_slV3, pd_slD, pd_slL, pd_frz1, pd_frz2, pd_frzA0, pd_frzA1, pd_frzA2, pd_frzA3, pd_frzs0, pd_frzs1, pd_frzs2, pd_retV1, pd_retV2, pd_retV3, pd_oneV, pd_intV, pd_strV, pd_boolP, pd_truN, pd_truB, pd_truI, pd_lst1, pd_lst2, pd_lst3, pd_tup, pd_seq1, pd_seq2, pd_seq3, pd_seq4, pd_it1, pd_it2, pd_it3, pd_it4, pd_thaw0, pd_thaw1, pd_thaw2, pd_sets0, pd_sets1, pd_sets2, pd_setV1, pd_setV2, pd_put1, pd_put2, pd_puts0, pd_puts1, Co.toD, List.getElem?_cons_zero, List.getElem?_cons_succ, List.set_cons_zero, List.set_cons_succ, List.length_cons, List.length_nil, Option.map_some, Option.map_none, Option.bind_some, if_true, if_false, Bool.false_eq_true, true_and, and_true, Bool.not_true, Bool.not_false, decide_true, decide_false, reduceIte, w_subS, w_call, w_aC, w_aN, w_V, w_C]
      refine take_ok hg12 (by omega) (by omega) fun v8 s13 v80 v81 hg13 => ?_
      have eix : ixN (zs b).length ((at_ : Int) + (j : Int)) = some (at_ + j) := by
        unfold ixN
        rw [if_pos (by omega), if_pos (by rw [List.length_map]; omega)]
        congr 1
      simp only [wO_some, wO_none, pd_slV1, pd_slV2, pd_slV3, pd_slD, pd_slL, pd_frz1, pd_frz2, pd_frzA0, pd_frzA1, pd_frzA2, pd_frzA3, pd_frzs0, pd_frzs1, pd_frzs2, pd_retV1, pd_retV2, pd_retV3, pd_oneV, pd_intV, pd_strV, pd_boolP, pd_truN, pd_truB, pd_truI, pd_lst1, pd_lst2, pd_lst3, pd_tup, pd_seq1, pd_seq2, pd_seq3, pd_seq4, pd_it1, pd_it2, pd_it3, pd_it4, pd_thaw0, pd_thaw1, pd_thaw2, pd_sets0, pd_sets1, pd_sets2, pd_setV1, pd_setV2, pd_put1, pd_put2, pd_puts0, pd_puts1, Co.toD, List.getElem?_cons_zero, List.getElem?_cons_succ, List.set_cons_zero, List.set_cons_succ, List.length_cons, List.length_nil, Option.map_some, Option.map_none, Option.bind_some, if_true, if_false, Bool.false_eq_true, true_and, and_true, Bool.not_true, Bool.not_false, decide_true, decide_false, reduceIte, eix]
      refine ⟨b.set (at_ + j) v8, .d (.int ((at_ : Int) + (j : Int))), ?_, hg13, fun o ho => ?_, by rw [List.length_set]; exact hlb, fun i hi' => ?_⟩
      · rw [show zs (b.set (at_ + j) v8) = (zs b).set (at_ + j) (.int v8) from List.map_set ..]
      · rcases List.mem_or_eq_of_mem_set ho with z | z
        · exact hb o z
        · rw [z]; exact ⟨v80, v81⟩
      · rw [List.getElem?_set_ne (by omega)]
        exact hbe i hi'
    · rintro e s12 ⟨b, sl11, rfl, hg12, hb, hlb, hbe⟩
      rw [w_ifS]
      simp only [w_b2, w_call, w_aC, w_aN, w_V, w_N, w_2, wO_some, wO_none, pd_slV1, pd_slV2, pd_slV3, pd_slD, pd_slL, pd_frz1, pd_frz2, pd_frzA0, pd_frzA1, pd_frzA2, pd_frzA3, pd_frzs0, pd_frzs1, pd_frzs2, pd_retV1, pd_retV2, pd_retV3, pd_oneV, pd_intV, pd_strV, pd_boolP, pd_truN, pd_truB, pd_truI, pd_lst1, pd_lst2, pd_lst3, pd_tup, pd_seq1, pd_seq2, pd_seq3, pd_seq4, pd_it1, pd_it2, pd_it3, pd_it4, pd_thaw0, pd_thaw1, pd_thaw2, pd_sets0, pd_sets1, pd_sets2, pd_setV1, pd_setV2, pd_put1, pd_put2, pd_puts0, pd_puts1, Co.toD, List.getElem?_cons_zero, List.getElem?_cons_succ, List.set_cons_zero, List.set_cons_succ, List.length_cons, List.length_nil, Option.map_some, Option.map_none, Option.bind_some, if_true, if_false, Bool.false_eq_true, true_and, and_true, Bool.not_true, Bool.not_false, decide_true, decide_false, reduceIte, o_tuple]
      rw [wE_eq (isSl_own (by omega))]
      simp only [wO_some, wO_none, pd_slV1, pd_slV2, pd_slV3, pd_slD, pd_slL, pd_frz1, pd_frz2, pd_frzA0, pd_frzA1, pd_frzA2, pd_frzA3, pd_frzs0, pd_frzs1, pd_frzs2, pd_retV1, pd_retV2, pd_retV3, pd_oneV, pd_intV, pd_strV, pd_boolP, pd_truN, pd_truB, pd_truI, pd_lst1, pd_lst2, pd_lst3, pd_tup, pd_seq1, pd_seq2, pd_seq3, pd_seq4, pd_it1, pd_it2, pd_it3, pd_it4, pd_thaw0, pd_thaw1, pd_thaw2, pd_sets0, pd_sets1, pd_sets2, pd_setV1, pd_setV2, pd_put1, pd_put2, pd_puts0, pd_puts1, Co.toD, List.getElem?_cons_zero, List.getElem?_cons_succ, List.set_cons_zero, List.set_cons_succ, List.length_cons, List.length_nil, Option.map_some, Option.map_none, Option.bind_some, if_true, if_false, Bool.false_eq_true, true_and, and_true, Bool.not_true, Bool.not_false, decide_true, decide_false, reduceIte, o_eqZ]
      rw [bend (at_ := at_) rfl hrow hb hlb hbe]
      simp only [o_neb, beq_self_eq_true, wO_some, wO_none, pd_slV1, pd_slV2, pd_slV3, pd_slD, pd_slL, pd_frz1, pd_frz2, pd_frzA0, pd_frzA1, pd_frzA2, pd_frzA3, pd_frzs0, pd_frzs1, pd_frzs2, pd_retV1, pd_retV2, pd_retV3, pd_oneV, pd_intV, pd_strV, pd_boolP, pd_truN, pd_truB, pd_truI, pd_lst1, pd_lst2, pd_lst3, pd_tup, pd_seq1, pd_seq2, pd_seq3, pd_seq4, pd_it1, pd_it2, pd_it3, pd_it4, pd_thaw0, pd_thaw1, pd_thaw2, pd_sets0, pd_sets1, pd_sets2, pd_setV1, pd_setV2, pd_put1, pd_put2, pd_puts0, pd_puts1, Co.toD, List.getElem?_cons_zero, List.getElem?_cons_succ, List.set_cons_zero, List.set_cons_succ, List.length_cons, List.length_nil, Option.map_some, Option.map_none, Option.bind_some, if_true, if_false, Bool.false_eq_true, true_and, and_true, Bool.not_true, Bool.not_false, decide_true, decide_false, reduceIte, w_nop]
      exact ⟨⟨_, _, _, _, _, _, _, _, _, _, _, rfl⟩, hg12⟩
  · rintro e s1 ⟨⟨sl2, sl3, sl4, sl5, sl6, sl7, sl8, sl9, sl10, sl11, sl12, rfl⟩, hg1⟩
    simp only [w_ret, w_C, wO_some, wO_none, pd_slV1, pd_slV2, pd_slV3, pd_slD, pd_slL, pd_frz1, pd_frz2, pd_frzA0, pd_frzA1, pd_frzA2, pd_frzA3, pd_frzs0, pd_frzs1, pd_frzs2, pd_retV1, pd_retV2, pd_retV3, pd_oneV, pd_intV, pd_strV, pd_boolP, pd_truN, pd_truB, pd_truI, pd_lst1, pd_lst2, pd_lst3, pd_tup, pd_seq1, pd_seq2, pd_seq3, pd_seq4, pd_it1, pd_it2, pd_it3, pd_it4, pd_thaw0, pd_thaw1, pd_thaw2, pd_sets0, pd_sets1, pd_sets2, pd_setV1, pd_setV2, pd_put1, pd_put2, pd_puts0, pd_puts1, Co.toD, List.getElem?_cons_zero, List.getElem?_cons_succ, List.set_cons_zero, List.set_cons_succ, List.length_cons, List.length_nil, Option.map_some, Option.map_none, Option.bind_some, if_true, if_false, Bool.false_eq_true, true_and, and_true, Bool.not_true, Bool.not_false, decide_true, decide_false, reduceIte]
end PD
namespace K43
open PySem DL
theorem pure_law (ns : List Int) (_ : ns.length ≤ 63) : ∀ w m, Begin tll ns w m → ∃ m', N_law [w] m = .ok (.d (.bool true)) m' := law_pd_of PD.law_ok
end K43
set_option Elab.async false
set_option linter.all false
set_option maxRecDepth 100000
set_option maxHeartbeats 0
namespace K43
open PySem PySem.Spec PyProof.Rows L2 DL Hn
def top (i : Nat) : Stmt := PySem.Challenge.pw_leastdoubt_k43_octets_of_integers_and_th.main.body.getD i (.Pass ⟨0, 0, 0, 0⟩)
structure Mo (K : PySem.W.Frag) (mg : Str → Option Value) : Prop where
  b_abs : mg "abs" = none
  b_bool : mg "bool" = none
  b_int : mg "int" = none
  b_isinstance : mg "isinstance" = none
  b_len : mg "len" = none
  b_list : mg "list" = none
  b_min : mg "min" = none
  b_range : mg "range" = none
  b_str : mg "str" = none
  b_super : mg "super" = none
  b_tuple : mg "tuple" = none
  b_zip : mg "zip" = none
  c_CHECK : Con K mg "CHECK" d_CHECK
  c_FACTOR : Con K mg "FACTOR" d_FACTOR
  c_GROUP : Con K mg "GROUP" d_GROUP
  c_HALF : Con K mg "HALF" d_HALF
  c_MODULUS : Con K mg "MODULUS" d_MODULUS
  k_BadBytes : EcF K mg "BadBytes" ["index", "fault"]
  sub : SubK K (subOf sbl)
abbrev s__law_bag : Stmt := top 17
abbrev s__law_take : Stmt := top 18
abbrev s__law_some : Stmt := top 19
abbrev s__law_integer : Stmt := top 21
abbrev s__law_check : Stmt := top 22
abbrev s__law_sealed : Stmt := top 23
abbrev s_integer_octets : Stmt := top 10
abbrev s_bits_of : Stmt := top 11
abbrev s_read_integer : Stmt := top 12
abbrev s__law_alike : Stmt := top 20
abbrev s_check_of : Stmt := top 13
abbrev s_sealed : Stmt := top 14
abbrev s_is_sealed : Stmt := top 15
abbrev s_law : Stmt := top 25
abbrev s__law_octets : Stmt := top 24
abbrev m_BadBytes : Stmt := clsStm (top 3) 0
def dE_BadBytes : ErD := ⟨"BadBytes", "BadBytes.__init__", defArgs m_BadBytes, defBody m_BadBytes, defScope m_BadBytes, ["index", "fault"]⟩
theorem is_BadBytes : IniS ["self", "index", "fault"] (defArgs m_BadBytes) (defScope m_BadBytes) := ⟨rfl, rfl, rfl, by decide +kernel, by decide +kernel, by decide +kernel, iniFree (by decide +kernel), ⟨_, rfl, rfl⟩, by decide +kernel, by decide +kernel⟩
theorem er_BadBytes {P : Program} {w : World} {K : PySem.W.Frag} {mg : Str → Option Value} {base : Heap} (F : ∃ C fI cc cda dV kV doc pm ct an, ErF P K mg dE_BadBytes C fI cc cda dV kV doc pm ct an) : Er P w K mg base "BadBytes" 2 [("index", 0), ("fault", 1)] := by
  obtain ⟨C, fI, cc, cda, dV, kV, doc, pm, ct, an, F⟩ := F
  have e := F.dn
  subst e
  exact ⟨C, fI, _, ["self", "index", "fault"], F.mgC, F.ns, F.er.ex, F.iC, F.tI, Binds.all (fun us hl => match us, hl with | [_, _, _], _ => rfl),
    init_fn (ps := ["self", "index", "fault"]) (idx := [1, 2]) (fs := [("fault", 2)]) F.er F.cd is_BadBytes rfl (ini_no F.no rfl (by decide)) (by decide) (by decide) (by decide) (fun A outer s H E => (pa_cons (pe_var rfl (Or.inl rfl)) (pa_cons (pe_var rfl (Or.inl rfl)) pa_nil))) (fun A outer s H E => (pss_cons (ps_ost (pe_var rfl (Or.inl rfl)) (pe_var rfl (Or.inl rfl))) (pss_cons (ps_ost (pe_var rfl (Or.inl rfl)) (pe_var rfl (Or.inl rfl))) pss_nil))) (fun _ => rfl) (fun _ => rfl) (fun _ => rfl) _ (fun _ => rfl)⟩
section
variable {P : Program} {w : World} {K : PySem.W.Frag} {mg : Str → Option Value} {base : Heap}
theorem sc__law_octets : FnScope ["deed", "e"] ["deed"] (defScope s__law_octets) := ⟨rfl, rfl, rfl, by decide +kernel, rfl, by decide +kernel, by decide +kernel⟩
theorem kt__law_octets (M : Mo K mg) (D : Df K mg "_law_octets" s__law_octets) : KnT P w K mg base "_law_octets" T__law_octets := by
  have S := sc__law_octets
  unfold T__law_octets
  exact kt_fn D S rfl (Or.inl rfl) (fun _ _ F => F.bindsN fun _ _ _ _ _ _ us hl => match us, hl with | [_], _ => rfl) rfl M.sub (fun g cdg A stack s H => (HdsD.named (i := 1) rfl (by decide) M.k_BadBytes rfl rfl (fun a oe cls d pn hz hf => hs_tupV (hs_tup M.k_BadBytes.ns (pa_cons pe_lfS (pa_cons (pe_lfF M.k_BadBytes.xf (M.k_BadBytes.no _ (by decide)) hz hf rfl (Or.inl rfl)) (pa_cons (pe_lfF M.k_BadBytes.xf (M.k_BadBytes.no _ (by decide)) hz hf rfl (Or.inl rfl)) pa_nil))))) HdsD.nil))
theorem sc__law_bag : FnScope ["script", "cell"] ["script"] (defScope s__law_bag) := ⟨rfl, rfl, rfl, by decide +kernel, rfl, by decide +kernel, by decide +kernel⟩
theorem ok__law_bag (M : Mo K mg) (D : Df K mg "_law_bag" s__law_bag) : Kn P w K mg base 1 1 "_law_bag" ["script"] N__law_bag := by
  have S := sc__law_bag
  unfold N__law_bag
  exact (k_fn D S rfl rfl (fun _ _ F => F.bindsN fun _ _ _ _ _ _ us hl => match us, hl with | [_], _ => rfl) fun f cdv A outer s H E hr tk hp =>
(ds_one (ds_ret (de_lst (da_cons de_int (da_cons de_int (da_cons de_int (da_cons (de_lc (own := [("cell", 1)]) rfl S.nd (di_val (de_sl (de_V (pv 0)) do_none (do_some de_int))) (blkOk_by (by rfl)) (fun _ _ _ _ _ => (pg_name S.nd (i := 1) rfl (Or.inl rfl))) gt_name rfl (fun _ _ _ _ _ => dts_nil) (fun _ _ _ _ _ => (de_callB o_abs rfl M.b_abs bt_abs (da_cons (de_V (pv 1)) da_nil)))) da_nil))))))))
theorem sc__law_take : FnScope ["bag", "many", "cell", "stirred", "value", "begin", "second"] ["bag", "many"] (defScope s__law_take) := ⟨rfl, rfl, rfl, by decide +kernel, rfl, by decide +kernel, by decide +kernel⟩
theorem ok__law_take (M : Mo K mg) (D : Df K mg "_law_take" s__law_take) : Kn P w K mg base 1 2 "_law_take" ["bag", "many"] N__law_take := by
  have S := sc__law_take
  unfold N__law_take
  exact (k_fn D S rfl rfl (fun _ _ F => F.bindsN fun _ _ _ _ _ _ us hl => match us, hl with | [_, _], _ => rfl) fun f cdv A outer s H E hr tk hp =>
(ds_seq (ds_if (dt_cmp (o_eq hr.units) (de_ix i_ix (de_V (pv 0)) de_int (fun _ _ => rfl)) de_int (nomark _))
(ds_seq (ds_set (ps_set (i := 2) S.nd rfl (Or.inl rfl) (de_ix i_ix (de_bin o_add (de_sl (de_ix i_ix (de_V (pv 0)) de_int (fun _ _ => rfl)) (do_some (de_ix i_ix (de_V (pv 0)) de_int (fun _ _ => rfl))) do_none) (de_lst (da_cons de_int da_nil))) de_int (fun _ _ => rfl)))) <|
(ds_seq (ds_augL a_add (de_V (pv 0)) de_int de_int) <|
(ds_seq (ds_if (dt_cmp o_ge (de_V (pv 2)) (de_bin o_pow de_int de_int) (nomark _))
(ds_one (ds_sub (de_V (pv 2)) (de_V (pv 0)) de_int))
ds_nil) <|
(ds_seq (ds_set (ps_set (i := 3) S.nd rfl (Or.inl rfl) (de_bin o_add (de_bin o_add (de_bin o_mul (de_ix i_ix (de_V (pv 0)) de_int (fun _ _ => rfl)) de_int) (de_bin o_mod (de_callT o_int1 rfl M.b_int bt_int (da_cons (de_V (pv 2)) da_nil)) de_int)) (de_bin o_mul de_int (de_ix i_ix (de_V (pv 0)) de_int (fun _ _ => rfl)))))) <|
(ds_one (ds_sub (de_bin o_mod (de_callT o_int1 rfl M.b_int bt_int (da_cons (de_V (pv 3)) da_nil)) de_int) (de_V (pv 0)) de_int))))))
ds_nil) <|
(ds_seq (ds_if (dt_cmp o_gt (de_ix i_ix (de_V (pv 0)) de_int (fun _ _ => rfl)) de_int (nomark _))
(ds_seq (ds_set (ps_set (i := 4) S.nd rfl (Or.inl rfl) (de_bin o_mod (de_callT o_int1 rfl M.b_int bt_int (da_cons (de_ix i_ix (de_V (pv 0)) de_int (fun _ _ => rfl)) da_nil)) (de_V (pv 1))))) <|
(ds_seq (ds_sub (de_bin o_fdiv (de_callT o_int1 rfl M.b_int bt_int (da_cons (de_ix i_ix (de_V (pv 0)) de_int (fun _ _ => rfl)) da_nil)) (de_V (pv 1))) (de_V (pv 0)) de_int) <|
(ds_one (ds_ret (de_V (pv 4))))))
ds_nil) <|
(ds_seq (ds_set (ps_set (i := 5) S.nd rfl (Or.inl rfl) (de_bin o_mod (de_callT o_int1 rfl M.b_int bt_int (da_cons (de_bin o_mul (de_bin o_add (de_ix i_ix (de_V (pv 0)) de_int (fun _ _ => rfl)) de_int) de_int) da_nil)) de_int))) <|
(ds_seq (ds_set (ps_set (i := 6) S.nd rfl (Or.inl rfl) (de_bin o_mod (de_callT o_int1 rfl M.b_int bt_int (da_cons (de_bin o_mul (de_bin o_mod (de_callT o_int1 rfl M.b_int bt_int (da_cons (de_bin o_mul (de_V (pv 5)) (de_V (pv 5))) da_nil)) de_int) de_int) da_nil)) de_int))) <|
(ds_one (ds_ret (de_bin o_mod (de_callT o_int1 rfl M.b_int bt_int (da_cons (de_bin o_fdiv (de_V (pv 6)) de_int) da_nil)) (de_V (pv 1))))))))))
theorem sc__law_some : FnScope ["bag", "things"] ["bag", "things"] (defScope s__law_some) := ⟨rfl, rfl, rfl, by decide +kernel, rfl, by decide +kernel, by decide +kernel⟩
theorem ok__law_some (M : Mo K mg) (D : Df K mg "_law_some" s__law_some) (C__law_take : Kn P w K mg base 1 2 "_law_take" ["bag", "many"] N__law_take) : Kn P w K mg base 2 2 "_law_some" ["bag", "things"] N__law_some := by
  have S := sc__law_some
  unfold N__law_some
  exact (k_fn D S rfl rfl (fun _ _ F => F.bindsN fun _ _ _ _ _ _ us hl => match us, hl with | [_, _], _ => rfl) fun f cdv A outer s H E hr tk hp =>
(ds_one (ds_ret (de_ix i_ix (de_V (pv 1)) (de_callK C__law_take tk hr (by decide) rfl (da_cons (de_V (pv 0)) (da_cons (de_callB c_len rfl M.b_len bt_len (da_cons (de_V (pv 1)) da_nil)) da_nil))) (fun _ _ => rfl)))))
theorem sc__law_integer : FnScope ["number", "found"] ["number"] (defScope s__law_integer) := ⟨rfl, rfl, rfl, by decide +kernel, rfl, by decide +kernel, by decide +kernel⟩
theorem ok__law_integer (M : Mo K mg) (D : Df K mg "_law_integer" s__law_integer) : Kn P w K mg base 1 1 "_law_integer" ["number"] N__law_integer := by
  have S := sc__law_integer
  unfold N__law_integer
  exact (k_fn D S rfl rfl (fun _ _ F => F.bindsN fun _ _ _ _ _ _ us hl => match us, hl with | [_], _ => rfl) fun f cdv A outer s H E hr tk hp =>
(ds_seq (ds_set (ps_set (i := 1) S.nd rfl (Or.inl rfl) (de_lst da_nil))) <|
(ds_seq (ds_while hp (dt_cmp o_gt (de_V (pv 0)) de_int (nomark _))
(ds_seq (ds_expr (de_app (de_V (pv 1)) (da_cons (de_bin o_add de_int (de_bin o_mod (de_callT o_int1 rfl M.b_int bt_int (da_cons (de_V (pv 0)) da_nil)) de_int)) da_nil))) <|
(ds_one (ds_set (ps_set (i := 0) S.nd rfl (Or.inl rfl) (de_bin o_fdiv (de_callT o_int1 rfl M.b_int bt_int (da_cons (de_V (pv 0)) da_nil)) de_int)))))) <|
(ds_one (ds_ret (de_callT o_tuple rfl M.b_tuple bt_tuple (da_cons (de_bin o_add (de_V (pv 1)) (de_lst (da_cons (de_V (pv 0)) da_nil))) da_nil)))))))
theorem sc__law_check : FnScope ["octets", "found", "octet"] ["octets"] (defScope s__law_check) := ⟨rfl, rfl, rfl, by decide +kernel, rfl, by decide +kernel, by decide +kernel⟩
theorem ok__law_check (M : Mo K mg) (D : Df K mg "_law_check" s__law_check) : Kn P w K mg base 1 1 "_law_check" ["octets"] N__law_check := by
  have S := sc__law_check
  unfold N__law_check
  exact (k_fn D S rfl rfl (fun _ _ F => F.bindsN fun _ _ _ _ _ _ us hl => match us, hl with | [_], _ => rfl) fun f cdv A outer s H E hr tk hp =>
(ds_seq (ds_set (ps_set (i := 1) S.nd rfl (Or.inl rfl) de_int)) <|
(ds_seq (ds_for hp rfl (di_val (de_V (pv 0))) (pg_name S.nd (i := 2) rfl (Or.inl rfl)) gt_name
(ds_one (ds_set (ps_set (i := 1) S.nd rfl (Or.inl rfl) (de_bin o_mod (de_callT o_int1 rfl M.b_int bt_int (da_cons (de_bin o_add (de_bin o_add (de_bin o_mul (de_V (pv 1)) de_int) (de_V (pv 2))) de_int) da_nil)) de_int))))) <|
(ds_one (ds_ret (de_V (pv 1)))))))
theorem sc__law_sealed : FnScope ["octets", "check", "found", "place"] ["octets"] (defScope s__law_sealed) := ⟨rfl, rfl, rfl, by decide +kernel, rfl, by decide +kernel, by decide +kernel⟩
theorem ok__law_sealed (M : Mo K mg) (D : Df K mg "_law_sealed" s__law_sealed) (C__law_check : Kn P w K mg base 1 1 "_law_check" ["octets"] N__law_check) : Kn P w K mg base 2 1 "_law_sealed" ["octets"] N__law_sealed := by
  have S := sc__law_sealed
  unfold N__law_sealed
  exact (k_fn D S rfl rfl (fun _ _ F => F.bindsN fun _ _ _ _ _ _ us hl => match us, hl with | [_], _ => rfl) fun f cdv A outer s H E hr tk hp =>
(ds_seq (ds_par (ps_par (i := 1) (j := 2) rfl S.nd rfl rfl (by decide) rfl rfl (da_cons (de_callK C__law_check tk hr (by decide) rfl (da_cons (de_V (pv 0)) da_nil)) (da_cons (de_lst da_nil) da_nil)) (by with_unfolding_all rfl))) <|
(ds_seq (ds_for hp rfl (di_ran1 rfl M.b_range (da_cons de_int da_nil)) (pg_name S.nd (i := 3) rfl (Or.inl rfl)) gt_name
(ds_seq (ds_expr (de_app (de_V (pv 2)) (da_cons (de_bin o_mod (de_callT o_int1 rfl M.b_int bt_int (da_cons (de_V (pv 1)) da_nil)) de_int) da_nil))) <|
(ds_one (ds_set (ps_set (i := 1) S.nd rfl (Or.inl rfl) (de_bin o_fdiv (de_callT o_int1 rfl M.b_int bt_int (da_cons (de_V (pv 1)) da_nil)) de_int)))))) <|
(ds_one (ds_ret (de_bin o_add (de_callT o_tuple rfl M.b_tuple bt_tuple (da_cons (de_V (pv 0)) da_nil)) (de_callT o_tuple rfl M.b_tuple bt_tuple (da_cons (de_rev (de_V (pv 2))) da_nil))))))))
theorem sc_integer_octets : FnScope ["number", "found"] ["number"] (defScope s_integer_octets) := ⟨rfl, rfl, rfl, by decide +kernel, rfl, by decide +kernel, by decide +kernel⟩
theorem ok_integer_octets (M : Mo K mg) (D : Df K mg "integer_octets" s_integer_octets) : Kn P w K mg base 1 1 "integer_octets" ["number"] N_integer_octets := by
  have S := sc_integer_octets
  unfold N_integer_octets
  exact (k_fn D S rfl rfl (fun _ _ F => F.bindsN fun _ _ _ _ _ _ us hl => match us, hl with | [_], _ => rfl) fun f cdv A outer s H E hr tk hp =>
(ds_seq (ds_set (ps_set (i := 1) S.nd rfl (Or.inl rfl) (de_lst da_nil))) <|
(ds_seq (ds_while hp (dt_cmp o_ge (de_V (pv 0)) (de_K rfl M.c_HALF) (nomark _))
(ds_seq (ds_expr (de_app (de_V (pv 1)) (da_cons (de_bin o_add (de_K rfl M.c_HALF) (de_bin o_and (de_V (pv 0)) (de_bin o_sub (de_K rfl M.c_HALF) de_int))) da_nil))) <|
(ds_one (ds_aug (i := 0) a_shr S.nd rfl (Or.inl rfl) (de_K rfl M.c_GROUP))))) <|
(ds_one (ds_ret (de_tup (da_star (de_V (pv 1)) (da_cons (de_V (pv 0)) da_nil))))))))
theorem sc_bits_of : FnScope ["octet", "at"] ["octet"] (defScope s_bits_of) := ⟨rfl, rfl, rfl, by decide +kernel, rfl, by decide +kernel, by decide +kernel⟩
theorem ok_bits_of (M : Mo K mg) (D : Df K mg "bits_of" s_bits_of) : Kn P w K mg base 1 1 "bits_of" ["octet"] N_bits_of := by
  have S := sc_bits_of
  unfold N_bits_of
  exact (k_fn D S rfl rfl (fun _ _ F => F.bindsN fun _ _ _ _ _ _ us hl => match us, hl with | [_], _ => rfl) fun f cdv A outer s H E hr tk hp =>
(ds_one (ds_ret (de_join de_str (de_lc (own := [("at", 1)]) rfl S.nd (di_ran1 rfl M.b_range (da_cons (de_K rfl M.c_GROUP) da_nil)) (blkOk_by (by rfl)) (fun _ _ _ _ _ => (pg_name S.nd (i := 1) rfl (Or.inl rfl))) gt_name rfl (fun _ _ _ _ _ => dts_nil) (fun _ _ _ _ _ => (de_if (dt_val (de_bin o_and (de_V (pv 0)) (de_bin o_shr (de_bin o_fdiv (de_K rfl M.c_HALF) de_int) (de_V (pv 1))))) de_str de_str)))))))
theorem sc_read_integer : FnScope ["octets", "place", "at", "octet"] ["octets", "place"] (defScope s_read_integer) := ⟨rfl, rfl, rfl, by decide +kernel, rfl, by decide +kernel, by decide +kernel⟩
theorem ok_read_integer (M : Mo K mg) (D : Df K mg "read_integer" s_read_integer) (C_bits_of : Kn P w K mg base 1 1 "bits_of" ["octet"] N_bits_of) (E_BadBytes : Er P w K mg base "BadBytes" 2 [("index", 0), ("fault", 1)]) : Kn P w K mg base 3 2 "read_integer" ["octets", "place"] N_read_integer := by
  have S := sc_read_integer
  unfold N_read_integer
  exact (k_fn D S rfl rfl (fun _ _ F => F.bindsN fun _ _ _ _ _ _ us hl => match us, hl with | [_, _], _ => rfl) fun f cdv A outer s H E hr tk hp =>
(ds_seq (ds_set (ps_set (i := 2) S.nd rfl (Or.inl rfl) (de_V (pv 1)))) <|
(ds_seq (ds_while hp (dt_pw (dw_and (dt_cmp o_lt (de_V (pv 2)) (de_callB c_len rfl M.b_len bt_len (da_cons (de_V (pv 0)) da_nil)) (nomark _)) (dw_and1 (dt_cmp o_ge (de_ix i_ix (de_V (pv 0)) (de_V (pv 2)) (fun _ _ => rfl)) (de_K rfl M.c_HALF) (nomark _)))))
(ds_one (ds_aug (i := 2) a_add S.nd rfl (Or.inl rfl) de_int))) <|
(ds_seq (ds_if (dt_pw (dw_or (dt_cmp (o_eq hr.units) (de_V (pv 2)) (de_callB c_len rfl M.b_len bt_len (da_cons (de_V (pv 0)) da_nil)) (nomark _)) (dw_or1 (dt_pw (dw_and (dt_cmp (o_eq hr.units) (de_ix i_ix (de_V (pv 0)) (de_V (pv 2)) (fun _ _ => rfl)) de_int (nomark _)) (dw_and1 (dt_cmp o_gt (de_V (pv 2)) (de_V (pv 1)) (nomark _))))))))
(ds_one (ds_raise E_BadBytes rfl tk hr (by decide) rfl (by decide) (da_cons (de_V (pv 1)) (da_cons de_str da_nil))))
ds_nil) <|
(ds_one (ds_ret (de_tup (da_cons (de_callT o_int2 rfl M.b_int bt_int (da_cons (de_join de_str (de_lc (own := [("octet", 3)]) rfl S.nd (di_val (de_rev (de_sl (de_V (pv 0)) (do_some (de_V (pv 1))) (do_some (de_bin o_add (de_V (pv 2)) de_int))))) (blkOk_by (by rfl)) (fun _ _ _ _ _ => (pg_name S.nd (i := 3) rfl (Or.inl rfl))) gt_name rfl (fun _ _ _ _ _ => dts_nil) (fun _ _ _ _ _ => (de_callK C_bits_of takes0 hr (by decide) rfl (da_cons (de_V (pv 3)) da_nil))))) (da_cons de_int da_nil))) (da_cons (de_bin o_add (de_V (pv 2)) de_int) da_nil)))))))))
theorem sc__law_alike : FnScope ["found", "due", "pairs", "at", "one", "other"] ["found", "due"] (defScope s__law_alike) := ⟨rfl, rfl, rfl, by decide +kernel, rfl, by decide +kernel, by decide +kernel⟩
theorem ok__law_alike (M : Mo K mg) (D : Df K mg "_law_alike" s__law_alike) : Kn P w K mg base 1 2 "_law_alike" ["found", "due"] N__law_alike := by
  have S := sc__law_alike
  unfold N__law_alike
  exact (k_fn D S rfl rfl (fun _ _ F => F.bindsN fun _ _ _ _ _ _ us hl => match us, hl with | [_, _], _ => rfl) fun f cdv A outer s H E hr tk hp =>
(ds_seq (ds_par (ps_par (i := 2) (j := 3) rfl S.nd rfl rfl (by decide) rfl rfl (da_cons (de_lst (da_cons (de_tup (da_cons (de_V (pv 0)) (da_cons (de_V (pv 1)) da_nil))) da_nil)) (da_cons de_int da_nil)) (by with_unfolding_all rfl))) <|
(ds_seq (ds_while hp (dt_cmp o_lt (de_V (pv 3)) (de_callB c_len rfl M.b_len bt_len (da_cons (de_V (pv 2)) da_nil)) (nomark _))
(ds_seq (ds_asg (de_ix i_ix (de_V (pv 2)) (de_V (pv 3)) (fun _ _ => rfl)) (pg_tup rfl (pgs_cons (pg_name S.nd (i := 4) rfl (Or.inl rfl)) (pgs_cons (pg_name S.nd (i := 5) rfl (Or.inl rfl)) pgs_nil))) (gt_tup (gts_cons gt_name (gts_cons gt_name gts_nil)) rfl)) <|
(ds_seq (ds_aug (i := 3) a_add S.nd rfl (Or.inl rfl) de_int) <|
(ds_seq (ds_if (dt_pw (dw_or (dt_cmp (o_ne hr.units) (de_isi (T := "bool") (by decide) rfl M.b_isinstance rfl M.b_bool bt_bool (de_V (pv 4)) bt_isi) (de_isi (T := "bool") (by decide) rfl M.b_isinstance rfl M.b_bool bt_bool (de_V (pv 5)) bt_isi) (nomark _)) (dw_or1 (dt_cmp (o_ne hr.units) (de_isi (T := "str") (by decide) rfl M.b_isinstance rfl M.b_str bt_str (de_V (pv 4)) bt_isi) (de_isi (T := "str") (by decide) rfl M.b_isinstance rfl M.b_str bt_str (de_V (pv 5)) bt_isi) (nomark _)))))
(ds_one (ds_ret de_bool))
ds_nil) <|
(ds_seq (ds_if (dt_cmp (o_ne hr.units) (de_isi2 (T := "tuple") (U := "list") (by decide) (by decide) rfl M.b_isinstance rfl M.b_tuple bt_tuple rfl M.b_list bt_list (de_V (pv 4)) bt_isi) (de_isi2 (T := "tuple") (U := "list") (by decide) (by decide) rfl M.b_isinstance rfl M.b_tuple bt_tuple rfl M.b_list bt_list (de_V (pv 5)) bt_isi) (nomark _))
(ds_one (ds_ret de_bool))
ds_nil) <|
(ds_one (ds_if (dt_val (de_isi2 (T := "tuple") (U := "list") (by decide) (by decide) rfl M.b_isinstance rfl M.b_tuple bt_tuple rfl M.b_list bt_list (de_V (pv 4)) bt_isi))
(ds_seq (ds_if (dt_pw (dw_or (dt_cmp (o_ne hr.units) (de_isi (T := "tuple") (by decide) rfl M.b_isinstance rfl M.b_tuple bt_tuple (de_V (pv 4)) bt_isi) (de_isi (T := "tuple") (by decide) rfl M.b_isinstance rfl M.b_tuple bt_tuple (de_V (pv 5)) bt_isi) (nomark _)) (dw_or1 (dt_cmp (o_ne hr.units) (de_callB c_len rfl M.b_len bt_len (da_cons (de_V (pv 4)) da_nil)) (de_callB c_len rfl M.b_len bt_len (da_cons (de_V (pv 5)) da_nil)) (nomark _)))))
(ds_one (ds_ret de_bool))
ds_nil) <|
(ds_one (ds_expr (de_ext (de_V (pv 2)) (da_cons (de_lz rfl rfl M.b_list rfl M.b_zip (da_cons (de_V (pv 4)) (da_cons (de_V (pv 5)) da_nil))) da_nil)))))
(ds_one (ds_if (dt_cmp (o_ne hr.units) (de_V (pv 4)) (de_V (pv 5)) (nomark _))
(ds_one (ds_ret de_bool))
ds_nil))))))))) <|
(ds_one (ds_ret de_bool)))))
theorem sc_check_of : FnScope ["octets", "found", "octet"] ["octets"] (defScope s_check_of) := ⟨rfl, rfl, rfl, by decide +kernel, rfl, by decide +kernel, by decide +kernel⟩
theorem ok_check_of (M : Mo K mg) (D : Df K mg "check_of" s_check_of) : Kn P w K mg base 1 1 "check_of" ["octets"] N_check_of := by
  have S := sc_check_of
  unfold N_check_of
  exact (k_fn D S rfl rfl (fun _ _ F => F.bindsN fun _ _ _ _ _ _ us hl => match us, hl with | [_], _ => rfl) fun f cdv A outer s H E hr tk hp =>
(ds_seq (ds_set (ps_set (i := 1) S.nd rfl (Or.inl rfl) de_int)) <|
(ds_seq (ds_for hp rfl (di_val (de_V (pv 0))) (pg_name S.nd (i := 2) rfl (Or.inl rfl)) gt_name
(ds_one (ds_set (ps_set (i := 1) S.nd rfl (Or.inl rfl) (de_bin o_mod (de_bin o_add (de_bin o_add (de_bin o_mul (de_V (pv 1)) (de_K rfl M.c_FACTOR)) (de_V (pv 2))) de_int) (de_K rfl M.c_MODULUS)))))) <|
(ds_one (ds_ret (de_V (pv 1)))))))
theorem sc_sealed : FnScope ["octets", "check"] ["octets"] (defScope s_sealed) := ⟨rfl, rfl, rfl, by decide +kernel, rfl, by decide +kernel, by decide +kernel⟩
theorem ok_sealed (M : Mo K mg) (D : Df K mg "sealed" s_sealed) (C_check_of : Kn P w K mg base 1 1 "check_of" ["octets"] N_check_of) : Kn P w K mg base 2 1 "sealed" ["octets"] N_sealed := by
  have S := sc_sealed
  unfold N_sealed
  exact (k_fn D S rfl rfl (fun _ _ F => F.bindsN fun _ _ _ _ _ _ us hl => match us, hl with | [_], _ => rfl) fun f cdv A outer s H E hr tk hp =>
(ds_seq (ds_set (ps_set (i := 1) S.nd rfl (Or.inl rfl) (de_callK C_check_of tk hr (by decide) rfl (da_cons (de_V (pv 0)) da_nil)))) <|
(ds_one (ds_ret (de_tup (da_star (de_V (pv 0)) (da_cons (de_bin o_shr (de_V (pv 1)) de_int) (da_cons (de_bin o_and (de_bin o_shr (de_V (pv 1)) de_int) de_int) (da_cons (de_bin o_and (de_bin o_shr (de_V (pv 1)) de_int) de_int) (da_cons (de_bin o_and (de_V (pv 1)) de_int) da_nil))))))))))
theorem sc_is_sealed : FnScope ["octets"] ["octets"] (defScope s_is_sealed) := ⟨rfl, rfl, rfl, by decide +kernel, rfl, by decide +kernel, by decide +kernel⟩
theorem ok_is_sealed (M : Mo K mg) (D : Df K mg "is_sealed" s_is_sealed) (C_sealed : Kn P w K mg base 2 1 "sealed" ["octets"] N_sealed) : Kn P w K mg base 3 1 "is_sealed" ["octets"] N_is_sealed := by
  have S := sc_is_sealed
  unfold N_is_sealed
  exact (k_fn D S rfl rfl (fun _ _ F => F.bindsN fun _ _ _ _ _ _ us hl => match us, hl with | [_], _ => rfl) fun f cdv A outer s H E hr tk hp =>
(ds_one (ds_ret (de_and (de_cmp o_ge (de_callB c_len rfl M.b_len bt_len (da_cons (de_V (pv 0)) da_nil)) (de_K rfl M.c_CHECK) (nomark _)) (de_one (de_cmp (o_eq hr.units) (de_callK C_sealed tk hr (by decide) rfl (da_cons (de_sl (de_V (pv 0)) do_none (do_some (de_bin o_sub (de_callB c_len rfl M.b_len bt_len (da_cons (de_V (pv 0)) da_nil)) (de_K rfl M.c_CHECK)))) da_nil)) (de_callT o_tuple rfl M.b_tuple bt_tuple (da_cons (de_V (pv 0)) da_nil)) (nomark _)))))))
theorem sc_law : FnScope ["script", "bag", "turn", "number", "octets", "ahead", "told", "row", "whole", "at", "bent", "place", "one"] ["script"] (defScope s_law) := ⟨rfl, rfl, rfl, by decide +kernel, rfl, by decide +kernel, by decide +kernel⟩
theorem fo_law {f : Addr} {fd : FuncData} (M : Mo K mg) (F : FunD K "law" "law" (defArgs s_law) (defBody s_law) (defScope s_law) [] [] f fd) (C__law_bag : Kn P w K mg base 1 1 "_law_bag" ["script"] N__law_bag) (C__law_some : Kn P w K mg base 2 2 "_law_some" ["bag", "things"] N__law_some) (C__law_integer : Kn P w K mg base 1 1 "_law_integer" ["number"] N__law_integer) (C__law_sealed : Kn P w K mg base 2 1 "_law_sealed" ["octets"] N__law_sealed) (C__law_take : Kn P w K mg base 1 2 "_law_take" ["bag", "many"] N__law_take) (C_integer_octets : Kn P w K mg base 1 1 "integer_octets" ["number"] N_integer_octets) (C_read_integer : Kn P w K mg base 3 2 "read_integer" ["octets", "place"] N_read_integer) (C__law_alike : Kn P w K mg base 1 2 "_law_alike" ["found", "due"] N__law_alike) (C_is_sealed : Kn P w K mg base 3 1 "is_sealed" ["octets"] N_is_sealed) (C_check_of : Kn P w K mg base 1 1 "check_of" ["octets"] N_check_of) (C_sealed : Kn P w K mg base 2 1 "sealed" ["octets"] N_sealed) (C__law_check : Kn P w K mg base 1 1 "_law_check" ["octets"] N__law_check) (KT__law_octets : KnT P w K mg base "_law_octets" T__law_octets) (L_law : LamK K mg base "law") (hm : mg "law" = some (.ref f)) : FnOk P w K mg base (L2.CX P w) 6 f fd ["script"] (spD K 1 N_law) := by
  have S := sc_law
  unfold N_law
  exact (d_fnL F hm L_law S rfl rfl fun cdv TX A outer s H E hr tk hp =>
(ds_seq (ds_set (ps_set (i := 1) S.nd rfl (Or.inr rfl) (de_callK C__law_bag tk hr (by decide) rfl (da_cons (de_V (pv 0)) da_nil)))) <|
(ds_seq (ds_for hp rfl (di_ran1 rfl M.b_range (da_cons de_int da_nil)) (pg_name S.nd (i := 2) rfl (Or.inl rfl)) gt_name
(ds_seq (ds_set (ps_set (i := 3) S.nd rfl (Or.inl rfl) (de_callK C__law_some tk hr (by decide) rfl (da_cons (de_V (pv 1)) (da_cons (de_lst (da_cons (de_callK C__law_take tk hr (by decide) rfl (da_cons (de_V (pv 1)) (da_cons de_int da_nil))) (da_cons (de_callK C__law_take tk hr (by decide) rfl (da_cons (de_V (pv 1)) (da_cons (de_bin o_pow de_int de_int) da_nil))) (da_cons de_int (da_cons de_int (da_cons (de_bin o_add (de_bin o_pow de_int de_int) (de_callK C__law_take tk hr (by decide) rfl (da_cons (de_V (pv 1)) (da_cons (de_bin o_pow de_int de_int) da_nil)))) da_nil)))))) da_nil))))) <|
(ds_seq (ds_set (ps_set (i := 4) S.nd rfl (Or.inr rfl) (de_callK C__law_integer tk hr (by decide) rfl (da_cons (de_V (pv 3)) da_nil)))) <|
(ds_seq (ds_set (ps_set (i := 5) S.nd rfl (Or.inr rfl) (de_callT o_tuple rfl M.b_tuple bt_tuple (da_cons (de_lc (own := [("one", 12)]) rfl S.nd (di_ran1 rfl M.b_range (da_cons (de_callK C__law_take tk hr (by decide) rfl (da_cons (de_V (pv 1)) (da_cons de_int da_nil))) da_nil)) (blkOk_by (by rfl)) (fun _ _ _ _ _ => (pg_name S.nd (i := 12) rfl (Or.inl rfl))) gt_name rfl (fun _ _ _ _ _ => dts_nil) (fun _ _ _ _ _ => (de_callK C__law_take takes0 hr (by decide) rfl (da_cons (de_V (pv 1)) (da_cons de_int da_nil))))) da_nil)))) <|
(ds_seq (ds_set (ps_set (i := 6) S.nd rfl (Or.inl rfl) (de_lst (da_cons (de_callK C_integer_octets tk hr (by decide) rfl (da_cons (de_V (pv 3)) da_nil)) (da_cons (de_callK C_read_integer tk hr (by decide) rfl (da_cons (de_bin o_add (de_bin o_add (de_V (pv 5)) (de_V (pv 4))) (de_tup (da_cons de_int da_nil))) (da_cons (de_callB c_len rfl M.b_len bt_len (da_cons (de_V (pv 5)) da_nil)) da_nil))) da_nil))))) <|
(ds_seq (ds_if (dt_not (dt_val (de_callK C__law_alike tk hr (by decide) rfl (da_cons (de_V (pv 6)) (da_cons (de_lst (da_cons (de_V (pv 4)) (da_cons (de_tup (da_cons (de_V (pv 3)) (da_cons (de_bin o_add (de_callB c_len rfl M.b_len bt_len (da_cons (de_V (pv 5)) da_nil)) (de_callB c_len rfl M.b_len bt_len (da_cons (de_V (pv 4)) da_nil))) da_nil))) da_nil))) da_nil)))))
(ds_one (ds_ret de_bool))
ds_nil) <|
(ds_seq (ds_if (dt_cmp (o_ne hr.units) (de_lam (k := 3) KT__law_octets TX rfl hr (by decide) (LamX.lamS_by (show LamX.lamSB (defScope s_law) _ = true by decide +kernel)) rfl (fun _ _ _ _ _ => rfl) (fun A outer s H E f c' hr tk => (de_callK C_read_integer tk hr (by decide) rfl (da_cons (de_bin o_add (de_V (pv 5)) (de_sl (de_V (pv 4)) do_none (do_some (de_un o_neg de_int)))) (da_cons (de_callB c_len rfl M.b_len bt_len (da_cons (de_V (pv 5)) da_nil)) da_nil))))) (de_tup (da_cons de_str (da_cons (de_callB c_len rfl M.b_len bt_len (da_cons (de_V (pv 5)) da_nil)) (da_cons de_str da_nil)))) (nomark _))
(ds_one (ds_ret de_bool))
ds_nil) <|
(ds_seq (ds_if (dt_cmp (o_ne hr.units) (de_lam (k := 3) KT__law_octets TX rfl hr (by decide) (LamX.lamS_by (show LamX.lamSB (defScope s_law) _ = true by decide +kernel)) rfl (fun _ _ _ _ _ => rfl) (fun A outer s H E f c' hr tk => (de_callK C_read_integer tk hr (by decide) rfl (da_cons (de_tup (da_cons de_int (da_cons de_int da_nil))) (da_cons de_int da_nil))))) (de_tup (da_cons de_str (da_cons de_int (da_cons de_str da_nil)))) (nomark _))
(ds_one (ds_ret de_bool))
ds_nil) <|
(ds_seq (ds_set (ps_set (i := 7) S.nd rfl (Or.inl rfl) (de_callT o_tuple rfl M.b_tuple bt_tuple (da_cons (de_lc (own := [("one", 12)]) rfl S.nd (di_ran1 rfl M.b_range (da_cons (de_callK C__law_take tk hr (by decide) rfl (da_cons (de_V (pv 1)) (da_cons de_int da_nil))) da_nil)) (blkOk_by (by rfl)) (fun _ _ _ _ _ => (pg_name S.nd (i := 12) rfl (Or.inl rfl))) gt_name rfl (fun _ _ _ _ _ => dts_nil) (fun _ _ _ _ _ => (de_callK C__law_take takes0 hr (by decide) rfl (da_cons (de_V (pv 1)) (da_cons de_int da_nil))))) da_nil)))) <|
(ds_seq (ds_set (ps_set (i := 8) S.nd rfl (Or.inl rfl) (de_callK C__law_sealed tk hr (by decide) rfl (da_cons (de_V (pv 7)) da_nil)))) <|
(ds_seq (ds_if (dt_not (dt_val (de_callK C__law_alike tk hr (by decide) rfl (da_cons (de_lst (da_cons (de_callK C_check_of tk hr (by decide) rfl (da_cons (de_V (pv 7)) da_nil)) (da_cons (de_callK C_sealed tk hr (by decide) rfl (da_cons (de_V (pv 7)) da_nil)) (da_cons (de_callK C_is_sealed tk hr (by decide) rfl (da_cons (de_V (pv 8)) da_nil)) da_nil)))) (da_cons (de_lst (da_cons (de_callK C__law_check tk hr (by decide) rfl (da_cons (de_V (pv 7)) da_nil)) (da_cons (de_V (pv 8)) (da_cons de_bool da_nil)))) da_nil)))))
(ds_one (ds_ret de_bool))
ds_nil) <|
(ds_seq (ds_set (ps_set (i := 9) S.nd rfl (Or.inl rfl) (de_callK C__law_take tk hr (by decide) rfl (da_cons (de_V (pv 1)) (da_cons (de_callB c_len rfl M.b_len bt_len (da_cons (de_V (pv 8)) da_nil)) da_nil))))) <|
(ds_seq (ds_set (ps_set (i := 10) S.nd rfl (Or.inl rfl) (de_callT o_list rfl M.b_list bt_list (da_cons (de_V (pv 8)) da_nil)))) <|
(ds_seq (ds_for hp rfl (di_ran2 rfl M.b_range (da_cons (de_V (pv 9)) (da_cons (de_callB (o_min2 rfl) rfl M.b_min bt_min (da_cons (de_callB c_len rfl M.b_len bt_len (da_cons (de_V (pv 8)) da_nil)) (da_cons (de_bin o_add (de_bin o_add (de_V (pv 9)) de_int) (de_callK C__law_take tk hr (by decide) rfl (da_cons (de_V (pv 1)) (da_cons de_int da_nil)))) da_nil))) da_nil))) (pg_name S.nd (i := 11) rfl (Or.inl rfl)) gt_name
(ds_one (ds_sub (de_callK C__law_take tk hr (by decide) rfl (da_cons (de_V (pv 1)) (da_cons de_int da_nil))) (de_V (pv 10)) (de_V (pv 11))))) <|
(ds_one (ds_if (dt_cmp (o_ne hr.units) (de_callK C_is_sealed tk hr (by decide) rfl (da_cons (de_callT o_tuple rfl M.b_tuple bt_tuple (da_cons (de_V (pv 10)) da_nil)) da_nil)) (de_cmp (o_eq hr.units) (de_callT o_tuple rfl M.b_tuple bt_tuple (da_cons (de_V (pv 10)) da_nil)) (de_V (pv 8)) (nomark _)) (nomark _))
(ds_one (ds_ret de_bool))
ds_nil)))))))))))))))) <|
(ds_one (ds_ret de_bool)))))
end
def dd__law_bag : He.DefD := ⟨("_law_bag", none), "_law_bag", "_law_bag", defArgs s__law_bag, defBody s__law_bag, defScope s__law_bag, [], []⟩
def dd__law_take : He.DefD := ⟨("_law_take", none), "_law_take", "_law_take", defArgs s__law_take, defBody s__law_take, defScope s__law_take, [], []⟩
def dd__law_some : He.DefD := ⟨("_law_some", none), "_law_some", "_law_some", defArgs s__law_some, defBody s__law_some, defScope s__law_some, [], []⟩
def dd__law_integer : He.DefD := ⟨("_law_integer", none), "_law_integer", "_law_integer", defArgs s__law_integer, defBody s__law_integer, defScope s__law_integer, [], []⟩
def dd__law_check : He.DefD := ⟨("_law_check", none), "_law_check", "_law_check", defArgs s__law_check, defBody s__law_check, defScope s__law_check, [], []⟩
def dd__law_sealed : He.DefD := ⟨("_law_sealed", none), "_law_sealed", "_law_sealed", defArgs s__law_sealed, defBody s__law_sealed, defScope s__law_sealed, [], []⟩
def dd_integer_octets : He.DefD := ⟨("integer_octets", none), "integer_octets", "integer_octets", defArgs s_integer_octets, defBody s_integer_octets, defScope s_integer_octets, [], []⟩
def dd_bits_of : He.DefD := ⟨("bits_of", none), "bits_of", "bits_of", defArgs s_bits_of, defBody s_bits_of, defScope s_bits_of, [], []⟩
def dd_read_integer : He.DefD := ⟨("read_integer", none), "read_integer", "read_integer", defArgs s_read_integer, defBody s_read_integer, defScope s_read_integer, [], []⟩
def dd__law_alike : He.DefD := ⟨("_law_alike", none), "_law_alike", "_law_alike", defArgs s__law_alike, defBody s__law_alike, defScope s__law_alike, [], []⟩
def dd_check_of : He.DefD := ⟨("check_of", none), "check_of", "check_of", defArgs s_check_of, defBody s_check_of, defScope s_check_of, [], []⟩
def dd_sealed : He.DefD := ⟨("sealed", none), "sealed", "sealed", defArgs s_sealed, defBody s_sealed, defScope s_sealed, [], []⟩
def dd_is_sealed : He.DefD := ⟨("is_sealed", none), "is_sealed", "is_sealed", defArgs s_is_sealed, defBody s_is_sealed, defScope s_is_sealed, [], []⟩
def dd_law : He.DefD := ⟨("law", none), "law", "law", defArgs s_law, defBody s_law, defScope s_law, [], []⟩
def dd__law_octets : He.DefD := ⟨("_law_octets", none), "_law_octets", "_law_octets", defArgs s__law_octets, defBody s__law_octets, defScope s__law_octets, [], []⟩
def fnl : List He.DefD := [dd__law_bag, dd__law_take, dd__law_some, dd__law_integer, dd__law_check, dd__law_sealed, dd_integer_octets, dd_bits_of, dd_read_integer, dd__law_alike, dd_check_of, dd_sealed, dd_is_sealed, dd_law, dd__law_octets]
def fal : List He.Fa := [.glo "_law_bag", .glo "_law_take", .glo "_law_some", .glo "_law_integer", .glo "_law_check", .glo "_law_sealed", .glo "integer_octets", .glo "bits_of", .glo "read_integer", .glo "_law_alike", .glo "check_of", .glo "sealed", .glo "is_sealed", .glo "law", .glo "_law_octets", .free "abs", .free "bool", .free "int", .free "isinstance", .free "len", .free "list", .free "min", .free "range", .free "str", .free "super", .free "tuple", .free "zip"]
def csl : List (Str × PyData) := [("CHECK", d_CHECK), ("FACTOR", d_FACTOR), ("GROUP", d_GROUP), ("HALF", d_HALF), ("MODULUS", d_MODULUS)]
def edl : List ErD := [dE_BadBytes]
def ecl : List (Str × List Str) := [("BadBytes", ["index", "fault"])]
theorem mo_of {K : PySem.W.Frag} {h : Heap} {mg : Str → Option Value} {file : Str} (X : K.In h) (G : h.Ns mainGlobals mg) (c : SaysR file fal fnl csl edl ecl sbl K) : Mo K mg :=
  ⟨He.free_ok X G (c.d.fact 15 (f := .free "abs") rfl), He.free_ok X G (c.d.fact 16 (f := .free "bool") rfl), He.free_ok X G (c.d.fact 17 (f := .free "int") rfl), He.free_ok X G (c.d.fact 18 (f := .free "isinstance") rfl), He.free_ok X G (c.d.fact 19 (f := .free "len") rfl), He.free_ok X G (c.d.fact 20 (f := .free "list") rfl), He.free_ok X G (c.d.fact 21 (f := .free "min") rfl), He.free_ok X G (c.d.fact 22 (f := .free "range") rfl), He.free_ok X G (c.d.fact 23 (f := .free "str") rfl), He.free_ok X G (c.d.fact 24 (f := .free "super") rfl), He.free_ok X G (c.d.fact 25 (f := .free "tuple") rfl), He.free_ok X G (c.d.fact 26 (f := .free "zip") rfl), SaysR.con X G c 0 (x := "CHECK") (d := d_CHECK), SaysR.con X G c 1 (x := "FACTOR") (d := d_FACTOR), SaysR.con X G c 2 (x := "GROUP") (d := d_GROUP), SaysR.con X G c 3 (x := "HALF") (d := d_HALF), SaysR.con X G c 4 (x := "MODULUS") (d := d_MODULUS), SaysR.ecf X G c 0, subK_of c.s⟩
theorem df__law_bag {K : PySem.W.Frag} {h : Heap} {mg : Str → Option Value} {file : Str} (X : K.In h) (G : h.Ns mainGlobals mg) (c : SaysR file fal fnl csl edl ecl sbl K) : Df K mg "_law_bag" s__law_bag := by
  obtain ⟨fd, F⟩ := c.d.def_ 0 (d := dd__law_bag) rfl
  exact ⟨_, fd, He.glo_ok X G (c.d.fact 0 (f := .glo "_law_bag") rfl), F⟩
theorem df__law_take {K : PySem.W.Frag} {h : Heap} {mg : Str → Option Value} {file : Str} (X : K.In h) (G : h.Ns mainGlobals mg) (c : SaysR file fal fnl csl edl ecl sbl K) : Df K mg "_law_take" s__law_take := by
  obtain ⟨fd, F⟩ := c.d.def_ 1 (d := dd__law_take) rfl
  exact ⟨_, fd, He.glo_ok X G (c.d.fact 1 (f := .glo "_law_take") rfl), F⟩
theorem df__law_some {K : PySem.W.Frag} {h : Heap} {mg : Str → Option Value} {file : Str} (X : K.In h) (G : h.Ns mainGlobals mg) (c : SaysR file fal fnl csl edl ecl sbl K) : Df K mg "_law_some" s__law_some := by
  obtain ⟨fd, F⟩ := c.d.def_ 2 (d := dd__law_some) rfl
  exact ⟨_, fd, He.glo_ok X G (c.d.fact 2 (f := .glo "_law_some") rfl), F⟩
theorem df__law_integer {K : PySem.W.Frag} {h : Heap} {mg : Str → Option Value} {file : Str} (X : K.In h) (G : h.Ns mainGlobals mg) (c : SaysR file fal fnl csl edl ecl sbl K) : Df K mg "_law_integer" s__law_integer := by
  obtain ⟨fd, F⟩ := c.d.def_ 3 (d := dd__law_integer) rfl
  exact ⟨_, fd, He.glo_ok X G (c.d.fact 3 (f := .glo "_law_integer") rfl), F⟩
theorem df__law_check {K : PySem.W.Frag} {h : Heap} {mg : Str → Option Value} {file : Str} (X : K.In h) (G : h.Ns mainGlobals mg) (c : SaysR file fal fnl csl edl ecl sbl K) : Df K mg "_law_check" s__law_check := by
  obtain ⟨fd, F⟩ := c.d.def_ 4 (d := dd__law_check) rfl
  exact ⟨_, fd, He.glo_ok X G (c.d.fact 4 (f := .glo "_law_check") rfl), F⟩
theorem df__law_sealed {K : PySem.W.Frag} {h : Heap} {mg : Str → Option Value} {file : Str} (X : K.In h) (G : h.Ns mainGlobals mg) (c : SaysR file fal fnl csl edl ecl sbl K) : Df K mg "_law_sealed" s__law_sealed := by
  obtain ⟨fd, F⟩ := c.d.def_ 5 (d := dd__law_sealed) rfl
  exact ⟨_, fd, He.glo_ok X G (c.d.fact 5 (f := .glo "_law_sealed") rfl), F⟩
theorem df_integer_octets {K : PySem.W.Frag} {h : Heap} {mg : Str → Option Value} {file : Str} (X : K.In h) (G : h.Ns mainGlobals mg) (c : SaysR file fal fnl csl edl ecl sbl K) : Df K mg "integer_octets" s_integer_octets := by
  obtain ⟨fd, F⟩ := c.d.def_ 6 (d := dd_integer_octets) rfl
  exact ⟨_, fd, He.glo_ok X G (c.d.fact 6 (f := .glo "integer_octets") rfl), F⟩
theorem df_bits_of {K : PySem.W.Frag} {h : Heap} {mg : Str → Option Value} {file : Str} (X : K.In h) (G : h.Ns mainGlobals mg) (c : SaysR file fal fnl csl edl ecl sbl K) : Df K mg "bits_of" s_bits_of := by
  obtain ⟨fd, F⟩ := c.d.def_ 7 (d := dd_bits_of) rfl
  exact ⟨_, fd, He.glo_ok X G (c.d.fact 7 (f := .glo "bits_of") rfl), F⟩
theorem df_read_integer {K : PySem.W.Frag} {h : Heap} {mg : Str → Option Value} {file : Str} (X : K.In h) (G : h.Ns mainGlobals mg) (c : SaysR file fal fnl csl edl ecl sbl K) : Df K mg "read_integer" s_read_integer := by
  obtain ⟨fd, F⟩ := c.d.def_ 8 (d := dd_read_integer) rfl
  exact ⟨_, fd, He.glo_ok X G (c.d.fact 8 (f := .glo "read_integer") rfl), F⟩
theorem df__law_alike {K : PySem.W.Frag} {h : Heap} {mg : Str → Option Value} {file : Str} (X : K.In h) (G : h.Ns mainGlobals mg) (c : SaysR file fal fnl csl edl ecl sbl K) : Df K mg "_law_alike" s__law_alike := by
  obtain ⟨fd, F⟩ := c.d.def_ 9 (d := dd__law_alike) rfl
  exact ⟨_, fd, He.glo_ok X G (c.d.fact 9 (f := .glo "_law_alike") rfl), F⟩
theorem df_check_of {K : PySem.W.Frag} {h : Heap} {mg : Str → Option Value} {file : Str} (X : K.In h) (G : h.Ns mainGlobals mg) (c : SaysR file fal fnl csl edl ecl sbl K) : Df K mg "check_of" s_check_of := by
  obtain ⟨fd, F⟩ := c.d.def_ 10 (d := dd_check_of) rfl
  exact ⟨_, fd, He.glo_ok X G (c.d.fact 10 (f := .glo "check_of") rfl), F⟩
theorem df_sealed {K : PySem.W.Frag} {h : Heap} {mg : Str → Option Value} {file : Str} (X : K.In h) (G : h.Ns mainGlobals mg) (c : SaysR file fal fnl csl edl ecl sbl K) : Df K mg "sealed" s_sealed := by
  obtain ⟨fd, F⟩ := c.d.def_ 11 (d := dd_sealed) rfl
  exact ⟨_, fd, He.glo_ok X G (c.d.fact 11 (f := .glo "sealed") rfl), F⟩
theorem df_is_sealed {K : PySem.W.Frag} {h : Heap} {mg : Str → Option Value} {file : Str} (X : K.In h) (G : h.Ns mainGlobals mg) (c : SaysR file fal fnl csl edl ecl sbl K) : Df K mg "is_sealed" s_is_sealed := by
  obtain ⟨fd, F⟩ := c.d.def_ 12 (d := dd_is_sealed) rfl
  exact ⟨_, fd, He.glo_ok X G (c.d.fact 12 (f := .glo "is_sealed") rfl), F⟩
theorem df_law {K : PySem.W.Frag} {h : Heap} {mg : Str → Option Value} {file : Str} (X : K.In h) (G : h.Ns mainGlobals mg) (c : SaysR file fal fnl csl edl ecl sbl K) : Df K mg "law" s_law := by
  obtain ⟨fd, F⟩ := c.d.def_ 13 (d := dd_law) rfl
  exact ⟨_, fd, He.glo_ok X G (c.d.fact 13 (f := .glo "law") rfl), F⟩
theorem df__law_octets {K : PySem.W.Frag} {h : Heap} {mg : Str → Option Value} {file : Str} (X : K.In h) (G : h.Ns mainGlobals mg) (c : SaysR file fal fnl csl edl ecl sbl K) : Df K mg "_law_octets" s__law_octets := by
  obtain ⟨fd, F⟩ := c.d.def_ 14 (d := dd__law_octets) rfl
  exact ⟨_, fd, He.glo_ok X G (c.d.fact 14 (f := .glo "_law_octets") rfl), F⟩
end K43
set_option Elab.async false
set_option linter.all false
set_option maxRecDepth 100000
set_option maxHeartbeats 0
namespace K43
open PySem PySem.Spec PyProof.Rows L2 DL
abbrev RR : PySem.W.OpenRow := PySem.W.OpenLaw.row PySem.Challenge.rw_leastdoubt_k43_octets_of_integers_and_th
abbrev PP : Program := (PySem.Challenge.rw_leastdoubt_k43_octets_of_integers_and_th).prog
def fil : Str := PP.main.file
abbrev hk : PySem.W.Hook := hookT fil 5 fal fnl csl edl ecl sbl lml
def ob (s : PySem.W.SharedT) : AlT := obsT fil 5 fal fnl csl edl ecl sbl lml (HandSHeadRun.getT s)
theorem ob_eq (s : PySem.W.SharedT) : ob s = hk.obs s.abs := obsT_eq (HandSHeadRun.getT_eq s)
def loose0 : List Str := ["_wall", "DoubtError", "BadBytes", "MODULUS", "FACTOR", "GROUP", "HALF", "CHECK", "integer_octets", "bits_of", "read_integer", "check_of", "sealed", "is_sealed", "_law_bag", "_law_take", "_law_some", "_law_alike", "_law_integer", "_law_check", "_law_sealed", "_law_octets"]
theorem run (w : World) : HandSHeadRun.RunEq RR (PySem.W.view RR.prog [25]) hk ob 4000 (loose0) w := by
  intro os
  kernel_rfl
theorem facts {w : World} {K : PySem.W.Frag} {h : Heap} {mg : Str → Option Value} {f : Addr} (X : K.In h) (G : h.Ns mainGlobals mg) (hfa : mg ("law" : Str) = some (.ref f)) (c0 : SaysT PP.main.file fal fnl csl edl ecl sbl lml K h) :
    ∃ fd : FuncData, (∀ (s : Shared) (v : Value), BindsTo s fd ⟨[v], []⟩ [("script", v)]) ∧ ∀ base : Heap, K.In base → base.Ns mainGlobals mg → (∀ y ∈ tll.map (·.1), LamX.TabB base mg (codeA K y) (tabA K y)) → FnOk PP w K mg base (L2.CX PP w) 6 f fd ["script"] (spD K 1 N_law) := by
  have c := c0.r
  have M := mo_of X G c
  obtain ⟨fd0, F0⟩ := c.d.def_ 13 (d := dd_law) rfl
  have e0 := hfa.symm.trans (He.glo_ok X G (c.d.fact 13 (f := .glo "law") rfl))
  cases e0
  have b0 := FunD.bindsA (ps := ["script"]) F0 fun _ _ _ _ _ _ us hl => match us, hl with | [_], _ => rfl
  refine ⟨fd0, fun s v => b0 s [v] rfl, fun base _ _ hT => ?_⟩
  have E_BadBytes := er_BadBytes (w := w) (base := base) (SaysR.err (P := PP) X G c M.b_super (by decide +kernel) 0 (d := dE_BadBytes) rfl)
  have L_law : LamK K mg base "law" := lamK_of X G (List.all_eq_true.mp c0.l "law" (List.mem_of_getElem? (i := 0) rfl)) (hT "law" (List.mem_of_getElem? (i := 0) rfl))
  have KT__law_octets := kt__law_octets (P := PP) (w := w) (base := base) M (df__law_octets X G c)
  have C__law_bag := ok__law_bag (P := PP) (w := w) (base := base) M (df__law_bag X G c)
  have C__law_take := ok__law_take (P := PP) (w := w) (base := base) M (df__law_take X G c)
  have C__law_some := ok__law_some (P := PP) (w := w) (base := base) M (df__law_some X G c) C__law_take
  have C__law_integer := ok__law_integer (P := PP) (w := w) (base := base) M (df__law_integer X G c)
  have C__law_check := ok__law_check (P := PP) (w := w) (base := base) M (df__law_check X G c)
  have C__law_sealed := ok__law_sealed (P := PP) (w := w) (base := base) M (df__law_sealed X G c) C__law_check
  have C_integer_octets := ok_integer_octets (P := PP) (w := w) (base := base) M (df_integer_octets X G c)
  have C_bits_of := ok_bits_of (P := PP) (w := w) (base := base) M (df_bits_of X G c)
  have C_read_integer := ok_read_integer (P := PP) (w := w) (base := base) M (df_read_integer X G c) C_bits_of E_BadBytes
  have C__law_alike := ok__law_alike (P := PP) (w := w) (base := base) M (df__law_alike X G c)
  have C_check_of := ok_check_of (P := PP) (w := w) (base := base) M (df_check_of X G c)
  have C_sealed := ok_sealed (P := PP) (w := w) (base := base) M (df_sealed X G c) C_check_of
  have C_is_sealed := ok_is_sealed (P := PP) (w := w) (base := base) M (df_is_sealed X G c) C_sealed
  exact fo_law M F0 C__law_bag C__law_some C__law_integer C__law_sealed C__law_take C_integer_octets C_read_integer C__law_alike C_is_sealed C_check_of C_sealed C__law_check KT__law_octets L_law hfa
end K43
open PySem PySem.W PySem.Calls PyProof.Rows
theorem PySem.Challenge.cw_leastdoubt_k43_octets_of_integers_and_th_holds : PySem.Challenge.rw_leastdoubt_k43_octets_of_integers_and_th.Holds := by
  w_on; o_law
  refine HandSHeadRun.head_any (r := OpenLaw.row PySem.Challenge.rw_leastdoubt_k43_octets_of_integers_and_th) (q := view (OpenLaw.row PySem.Challenge.rw_leastdoubt_k43_octets_of_integers_and_th).prog [25]) (H := K43.hk) (ob := K43.ob) (M := 4000) (loose := (K43.loose0)) (d := HandSHeadRun.topDef (OpenLaw.row PySem.Challenge.rw_leastdoubt_k43_octets_of_integers_and_th).prog 25) (kwd := []) K43.ob_eq
    (by kernel_rfl) (fun s => by kernel_rfl) K43.run (by kernel_rfl) (by kernel_rfl) (by kernel_rfl) (by rfl) (by first | assumption | decide +kernel) (by decide +kernel) ⟨rfl, rfl, rfl, rfl, rfl, by decide +kernel⟩ ?hw ?hc
  case hw => w_witness2
  case hc =>
    refine DL.walk_T (l := PySem.Challenge.rw_leastdoubt_k43_octets_of_integers_and_th) (n := 63) (k := 6) (x := "script") (F := K43.N_law) (tl := K43.tll) rfl (by decide) (by kernel_rfl) ⟨rfl, by decide, by decide⟩ ?F fun ns hn => K43.pure_law ns hn
    intro w mg fa h Y G hmg0
    obtain ⟨K, KX, c⟩ := Y
    have hmg : mg ("law" : PySem.Str) = some (.ref fa) := by
      have e : (HandSHeadRun.topDef (OpenLaw.row PySem.Challenge.rw_leastdoubt_k43_octets_of_integers_and_th).prog 25).name = ("law" : PySem.Str) := by kernel_rfl
      rw [← e]
      exact hmg0
    obtain ⟨fd, hb, hF⟩ := K43.facts (w := w) KX G hmg c
    exact ⟨K, fd, KX, c.l, c.n, c.t, hb, hF⟩
