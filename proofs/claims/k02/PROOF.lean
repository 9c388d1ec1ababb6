import PyProof.Rows.All
import Wide.All
import OpenK.AllK
import Wide.FinOn
import KE.KDictKeyed
import KE.KDictWalk
import HandS.Ends
import PyProof.EqAt
import PyProof.EqKinds
import PyProof.TupleCall
import KE.KStateDown
import KE.KeyNested
import HandS.Base
import HandS.Call
import HandS.List
import HandS.Comp
import HandS.Dict
import HandS.Iter
import HandS.Text
import HandS.Exc
import HandS.TryOnly
import HandS.Words
import HandS.WordsList
import HandS.WordsDict
import HandS.WordsExc
import HandS.Flow
import HandS.Lambda
import HandS.IsInst
import HandS.ExcOwn
import HandS.TupLe
import HandS.Deep
import HandS.Strs
import KE.KDictCopyH
import HandS.Conv
import HandS.Style
import HandS.DictComp
import HandS.Defaults
import PyProof.Rows.SortShellAny
import PyProof.Rows.SortShell
import HandS.Head0
import HandS.Head1
import HandS.Head2
import HandS.HeadEnd
import HandS.HeadHook1
import HandS.HeadHook2
import KE.GoesZip
import KE.GoesMore
import KE.KItemsList
import HandS.Zip0
import KE.KExcSuper
import KE.KSuper
import HandS.ExcInit
import HandS.ExcField
import HandS.Nested
import HandS.TryMany
import HandS.Star
import HandS.TupAny
import KE.KRevSl
import HandS.IntHex
import HandS.EndTab
import HandS.HeadWalk
import KE.GoesEnum
import KE.SortData
import KE.KDictSum
import HandS.SetFor
import HandS.SetKeys
import KE.KDictPairs
import HandS.Sort
import PyProof.ReprReads
import PyProof.ReprRoads
import KE.KEqDict
import HandS.TupMul
import PySem.Challenge.RW_leastdoubt_k02_words_of_lines_one_by_one
set_option Elab.async false
set_option linter.all false
set_option maxRecDepth 100000
set_option maxHeartbeats 4000000
namespace DL
open PySem PySem.Spec PyProof.Rows L2
/-- a value that is a key -/
def KIs (h : Heap) (k : NestedKey) (v : Value) : Prop := NestedIs h k v ∧ k.depth ≤ 8
def gEnt (w : World) (x : NestedKey × Value × Value) : DictEntry := ⟨x.1.hash w, x.2.1, x.2.2⟩
section
variable {prog : Program} {w : World} {A : Around} {E : Value → Shared → Prop} {s : Shared}
theorem KIs.at {h h' : Heap} {k : NestedKey} {v : Value} (x : KIs h k v) (e : ∀ a o vs n, h.get? a = some o → o.data = .seq vs n → h'.get? a = some o) : KIs h' k v := ⟨NestedIs.at e k v x.1, x.2⟩
theorem KIs.inj {h : Heap} {x y : NestedKey} {v : Value} (a : KIs h x v) (b : KIs h y v) : x = y := NestedIs.inj _ _ _ a.1 b.1
end
end DL
namespace DL
open PySem PySem.Spec PyProof.Rows L2
section
variable {prog : Program} {w : World} {A : Around} {E : Value → Shared → Prop} {s : Shared} {d : Addr} {xs : List (NestedKey × Value × Value)} {k : NestedKey} {u v : Value}
/-- at d stands a dict with these entries, its epoch being how many they are -/
def GDict (h : Heap) (w : World) (d : Addr) (xs : List (NestedKey × Value × Value)) : Prop :=
  ∃ (o : Obj) (es : Array DictEntry), h.get? d = some o ∧ o.ExactDict ∧ o.data = .dict es xs.length ∧ es.toList = xs.map (gEnt w) ∧ (∀ x ∈ xs, KIs h x.1 x.2.1) ∧ (xs.map (·.1)).Nodup
theorem GDict.typeIs (x : GDict s.heap w d xs) : s.TypeIs (.ref d) "dict" := let ⟨o, _, ho, hc, _⟩ := x; ⟨o, ho, hc.1⟩
theorem GDict.tok {n : Nat} (x : GDict s.heap w d xs) : GDict ({ s with toks := n } : Shared).heap w d xs := x
def gAt (xs : List (NestedKey × Value × Value)) (k : NestedKey) : Option Value := (xs.find? fun x => decide (x.1 = k)).map (·.2.2)
end
end DL
set_option Elab.async false
set_option linter.all false
set_option maxRecDepth 100000
set_option maxHeartbeats 2000000
namespace DL
open PySem PySem.Spec PyProof.Rows L2
inductive Wd where
  | d (x : PyData) | ref (n : Nat) | tup (xs : List Wd) | rol (xs : List Wd) | v (x : V)
instance : Inhabited Wd := ⟨.d .none⟩
inductive Cell where
  | lst (xs : List Wd) | dct (kvs : List (PyData × Wd)) | ndc (kvs : List (PyData × Wd)) | gdc (kvs : List (PyData × Wd)) | ins (c : Str) (fs : List (Str × Wd)) | tab (x q : Str)
mutual
def Wd.lt (k : Nat) : Wd → Bool
  | .d _ => true
  | .ref n => decide (n < k)
  | .tup xs => Wd.ltAll k xs
  | .rol xs => Wd.ltAll k xs
  | .v _ => true
def Wd.ltAll (k : Nat) : List Wd → Bool
  | [] => true
  | x :: xs => Wd.lt k x && Wd.ltAll k xs
end
def Cell.lt (k : Nat) : Cell → Bool
  | .lst xs => Wd.ltAll k xs
  | .dct kvs => Wd.ltAll k (kvs.map (·.2))
  | .ndc kvs => Wd.ltAll k (kvs.map (·.2))
  | .gdc kvs => Wd.ltAll k (kvs.map (·.2))
  | .ins _ fs => Wd.ltAll k (fs.map (·.2))
  | .tab _ _ => true
/-- the cells; for each scope that is open: where it began, which older cells have got a reference since -/
structure Mm where
  cells : List Cell
  stk : List (Nat × List Nat)
structure Ex where
  cls : Str
  fs : List (Str × Wd)
inductive Rs (α : Type) where
  | ok (a : α) (m : Mm) | exc (x : Ex) (m : Mm) | stuck
def Rs.bind {α β : Type} : Rs α → (α → Mm → Rs β) → Rs β
  | .ok a m, k => k a m
  | .exc x m, _ => .exc x m
  | .stuck, _ => .stuck
@[simp] theorem Rs.bind_ok {α β : Type} (a : α) (m : Mm) (k : α → Mm → Rs β) : (Rs.ok a m).bind k = k a m := rfl
@[simp] theorem Rs.bind_exc {α β : Type} (x : Ex) (m : Mm) (k : α → Mm → Rs β) : (Rs.exc x m).bind k = .exc x m := rfl
@[simp] theorem Rs.bind_stuck {α β : Type} (k : α → Mm → Rs β) : (Rs.stuck : Rs α).bind k = .stuck := rfl
abbrev Env := List (Option Wd)
abbrev Em (α : Type) := Env → Mm → Rs α
inductive Fl where
  | nx | rt (w : Wd) | bk | ct
inductive Sr where
  | go (f : Fl) (e : Env) (m : Mm) | exc (x : Ex) (e : Env) (m : Mm) | stuck
abbrev Sm := Env → Mm → Sr
mutual
def nkOf : PyData → Option NestedKey
  | .none => some .none
  | .int i => some (.num i)
  | .str x => some (.text x)
  | .tuple ds => (match nksOf ds with
    | some ks => some (.tup ks)
    | none => none)
  | _ => none
def nksOf : List PyData → Option (List NestedKey)
  | [] => some []
  | d :: ds => (match nkOf d, nksOf ds with
    | some k, some ks => some (k :: ks)
    | _, _ => none)
end
def nkT : PyData → Option NestedKey
  | .tuple ds => (match nksOf ds with
    | some ks => if NestedKey.depthAll ks ≤ 7 then some (.tup ks) else none
    | none => none)
  | _ => none
/-- a key of any kind -/
def nkG (d : PyData) : Option NestedKey := match nkOf d with
  | some k => if k.depth ≤ 8 then some k else none
  | none => none
/-- the module's objects, and the world -/
structure Kw where
  F : PySem.W.Frag
  w : World
instance : CoeOut Kw PySem.W.Frag := ⟨Kw.F⟩
abbrev Kw.lookup (K : Kw) (a : Addr) : Option Obj := K.F.lookup a
abbrev _root_.L2.Cx.KW (X : L2.Cx) : Kw := ⟨X.K, X.w⟩
/-- nothing hangs on the object at a but what its kind brings -/
def PlO (F : PySem.W.Frag) (H : Hp) (a : Addr) : Prop := (∃ o u, H a = some (.frz o u) ∧ o.dict = none) ∨ ∃ o, F.lookup a = some o ∧ o.dict = none
/-- a tuple, nothing more -/
def SqP (F : PySem.W.Frag) (H : Hp) (a : Addr) (vs : List V) : Prop := SqT F H a vs ∧ PlO F H a
section
variable (K : Kw)
mutual
inductive RelD (H : Hp) : PyData → V → Prop where
  | non : RelD H .none .non
  | bl (b : Bool) : RelD H (.bool b) (.bl b)
  | int (i : Int) : RelD H (.int i) (.int i)
  | str (x : Str) : RelD H (.str x) (.str x)
  | tup {a : Addr} {vs : List V} {ds : List PyData} : SqP K H a vs → RelDs H ds vs → RelD H (.tuple ds) (.ref a)
inductive RelDs (H : Hp) : List PyData → List V → Prop where
  | nil : RelDs H [] []
  | cons {d : PyData} {ds : List PyData} {v : V} {vs : List V} : RelD H d v → RelDs H ds vs → RelDs H (d :: ds) (v :: vs)
end
/-- a list that is only read: the script -/
def Rol (H : Hp) (a : Addr) (vs : List V) : Prop := (∃ o, H a = some (.frz o (.lst vs))) ∨
  ∃ (o : Obj) (its : Array Value) (n : Nat), K.lookup a = some o ∧ o.cls = .type "list" ∧ o.dict = none ∧ o.data = .seq its n ∧ its.size ≤ sizeLine ∧ Vals vs its.toList
mutual
inductive RelW (ι : List Addr) (H : Hp) : Wd → V → Prop where
  | d {x : PyData} {v : V} : RelD K H x v → RelW ι H (.d x) v
  | ref {n : Nat} {a : Addr} : ι[n]? = some a → RelW ι H (.ref n) (.ref a)
  | tup {a : Addr} {vs : List V} {ws : List Wd} : SqP K H a vs → RelWs ι H ws vs → RelW ι H (.tup ws) (.ref a)
  | rol {a : Addr} {vs : List V} {ws : List Wd} : Rol K H a vs → RelWs ι H ws vs → RelW ι H (.rol ws) (.ref a)
  | v (x : V) : RelW ι H (.v x) x
inductive RelWs (ι : List Addr) (H : Hp) : List Wd → List V → Prop where
  | nil : RelWs ι H [] []
  | cons {w : Wd} {ws : List Wd} {v : V} {vs : List V} : RelW ι H w v → RelWs ι H ws vs → RelWs ι H (w :: ws) (v :: vs)
end
/-- a dict's pairs: keys that are ints and texts -/
def keyD : Key → PyData
  | .inl i => .int i
  | .inr x => .str x
def KvOk (ι : List Addr) (H : Hp) : List (PyData × Wd) → List (Key × V) → Prop
  | [], [] => True
  | (d, w) :: r, (k, v) :: r' => d = keyD k ∧ RelW K ι H w v ∧ KvOk ι H r r'
  | _, _ => False
/-- a dict's pairs: keys that are tuples -/
def NvOk (ι : List Addr) (H : Hp) : List (PyData × Wd) → List (NestedKey × Addr × Value) → Prop
  | [], [] => True
  | (d, w) :: r, (k, b, u) :: r' => nkT d = some k ∧ RelD K H d (.ref b) ∧ (∃ v, RelW K ι H w v ∧ RelV v u) ∧ NvOk ι H r r'
  | _, _ => False
/-- a dict's pairs: keys that are any data -/
def GvOk (ι : List Addr) (H : Hp) : List (PyData × Wd) → List (NestedKey × Value × Value) → Prop
  | [], [] => True
  | (d, w) :: r, (k, b, u) :: r' => nkG d = some k ∧ (∃ y, RelD K H d y ∧ RelV y b) ∧ (∃ v, RelW K ι H w v ∧ RelV v u) ∧ GvOk ι H r r'
  | _, _ => False
def nEnt (w : World) (x : NestedKey × Addr × Value) : DictEntry := ⟨x.1.hash w, .ref x.2.1, x.2.2⟩
def FsOk (ι : List Addr) (H : Hp) : List (Str × Wd) → List (Str × V) → Prop
  | [], [] => True
  | (f, w) :: r, (g, v) :: r' => f = g ∧ RelW K ι H w v ∧ FsOk ι H r r'
  | _, _ => False
/-- the table that the code object of the def x names -/
def tabP (F : PySem.W.Frag) (x : Str) : Option Addr := match PySem.W.nsIn F mainGlobals x with
  | some (some (.ref f)) => (match F.lookup f with
    | some ⟨_, _, .func fd, _⟩ => (match fd.code with
      | .ref c => (match F.lookup c with
        | some ⟨_, _, .fields vs, _⟩ => (match (vs[11]? : Option Value) with
          | some (Value.ref P) => some P
          | _ => none)
        | _ => none)
      | _ => none)
    | _ => none)
  | _ => none
def CellOk (ι : List Addr) (H : Hp) (a : Addr) : Cell → Prop
  | .lst xs => ∃ vs, H a = some (.lst vs) ∧ RelWs K ι H xs vs
  | .dct kvs => ∃ ks, H a = some (.dK ks) ∧ KvOk K ι H kvs ks
  | .ndc kvs => (a == sysModules) = false ∧ ∃ (o : Obj) (es : Array DictEntry) (ep : Nat) (xs : List (NestedKey × Addr × Value)),
      H a = some (.ext fun h => h.get? a = some o) ∧ o.ExactDict ∧ o.data = .dict es ep ∧ es.toList = xs.map (nEnt K.w) ∧ (xs.map (·.1)).Nodup ∧ xs.length ≤ sizeLine ∧ NvOk K ι H kvs xs
  | .gdc kvs => (a == sysModules) = false ∧ ∃ (o : Obj) (es : Array DictEntry) (xs : List (NestedKey × Value × Value)),
      H a = some (.ext fun h => h.get? a = some o) ∧ o.ExactDict ∧ o.data = .dict es xs.length ∧ es.toList = xs.map (gEnt K.w) ∧ (xs.map (·.1)).Nodup ∧ xs.length ≤ sizeLine ∧ GvOk K ι H kvs xs
  | .ins c fs => ∃ (C dx : Addr) (gs : List (Str × V)), PySem.W.nsIn K mainGlobals c = some (some (.ref C)) ∧ H a = some (.ins C dx gs) ∧ FsOk K ι H fs gs
  | .tab x q => tabP K x = some a ∧ LamX.TabS H a q
structure MemOk (ι : List Addr) (m : Mm) (H : Hp) : Prop where
  len : ι.length = m.cells.length
  nd : ι.Nodup
  cell : ∀ (n : Nat) a c, ι[n]? = some a → m.cells[n]? = some c → CellOk K ι H a c
  top : ∀ p ∈ m.stk, p.1 ≤ m.cells.length
  ord : (m.stk.map (·.1)).Pairwise (fun x y => y ≤ x)
  clean : ∀ p ∈ m.stk, ∀ (n : Nat) c, n < p.1 → n ∉ p.2 → m.cells[n]? = some c → c.lt p.1 = true
def EnvOk (ι : List Addr) (H : Hp) (env : Env) (σ : L2.St) : Prop :=
  env.length = σ.length ∧ ∀ (i : Nat) w, env[i]? = some (some w) → ∃ v, σ[i]? = some (some v) ∧ RelW K ι H w v
end
/-- later: no more is forgotten, what is new was free, what is no cell stays -/
structure Stp (ι : List Addr) (H : Hp) (ι' : List Addr) (H' : Hp) : Prop where
  pre : ι <+: ι'
  new : ∀ a ∈ ι', a ∉ ι → H a = none
  fix : ∀ a o, H a = some o → a ∉ ι → H' a = some o
theorem Stp.refl {ι : List Addr} {H : Hp} : Stp ι H ι H := ⟨List.prefix_refl ι, fun _ h n => absurd h n, fun _ _ h _ => h⟩
theorem Stp.trans {ι ι1 ι2 : List Addr} {H H1 H2 : Hp} (a : Stp ι H ι1 H1) (b : Stp ι1 H1 ι2 H2) : Stp ι H ι2 H2 where
  pre := a.pre.trans b.pre
  new := fun x hx n => by
    by_cases h : x ∈ ι1
    · exact a.new x h n
    · have e := b.new x hx h
      cases q : H x with
      | none => rfl
      | some o => rw [a.fix x o q n] at e; cases e
  fix := fun x o h n => by
    have h1 := a.fix x o h n
    by_cases h2 : x ∈ ι1
    · have := a.new x h2 n
      rw [h] at this; cases this
    · exact b.fix x o h1 h2
section
variable {K : Kw} {ι ι' : List Addr} {H H' : Hp}
def Apart (ι : List Addr) (H : Hp) : Prop := ∀ a ∈ ι, (∀ xs, ¬ Rd H a (.tup xs)) ∧ (∀ o u, H a ≠ some (.frz o u)) ∧ (H a ≠ none ∧ ∀ q, H a ≠ some (LamX.CodeO a q))
theorem code_ne {a : Addr} {q : Str} {o : Obj} {es : Array DictEntry} {ep : Nat} (ho : o.data = .dict es ep) : HO.ext (fun h => h.get? a = some o) ≠ LamX.CodeO a q := fun z => by
  have z' := HO.ext.inj z
  let h : Heap := ⟨(List.replicate (a + 1) o).toArray, {}⟩
  have hg : h.get? a = some o := by
    unfold Heap.get?
    have e : h.objs[a]? = some o := by simp [h]
    rw [e]
    obtain ⟨oc, od, dt, osl⟩ := o
    have ho' : dt = .dict es ep := ho
    subst ho'
    rfl
  have z2 := congrFun z' h
  have z3 : h.get? a = some o := hg
  rw [z2] at z3
  obtain ⟨oc, vs, t, e1, e2, _⟩ := z3
  rw [hg] at e1
  cases e1
  rw [ho] at e2
  cases e2
theorem CellOk.apart {a : Addr} {c : Cell} (h : CellOk K ι H a c) : (∀ xs, ¬ Rd H a (.tup xs)) ∧ (∀ o u, H a ≠ some (.frz o u)) ∧ (H a ≠ none ∧ ∀ q, H a ≠ some (LamX.CodeO a q)) := by
  have key : ∀ u, H a = some u → (∀ xs, u ≠ .tup xs) → (∀ o w, u ≠ .frz o w) → (∀ q, u ≠ LamX.CodeO a q) → (∀ xs, ¬ Rd H a (.tup xs)) ∧ (∀ o u, H a ≠ some (.frz o u)) ∧ (H a ≠ none ∧ ∀ q, H a ≠ some (LamX.CodeO a q)) := fun u e n1 n2 n3 => by
    refine ⟨fun xs r => ?_, fun o w r => ?_, fun r => ?_, fun p r => ?_⟩
    · rcases r with r | ⟨o, r⟩
      · rw [e] at r; exact n1 xs (Option.some.inj r)
      · rw [e] at r; exact n2 _ _ (Option.some.inj r)
    · rw [e] at r; exact n2 _ _ (Option.some.inj r)
    · rw [e] at r; cases r
    · rw [e] at r; exact n3 _ (Option.some.inj r)
  cases c with
  | lst ys => obtain ⟨vs, e, _⟩ := h; exact key _ e (fun _ z => by cases z) (fun _ _ z => by cases z) (fun _ z => by cases z)
  | dct kvs => obtain ⟨vs, e, _⟩ := h; exact key _ e (fun _ z => by cases z) (fun _ _ z => by cases z) (fun _ z => by cases z)
  | ndc kvs => obtain ⟨_, o, es, ep, _, e, _, h2, _⟩ := h; exact key _ e (fun _ z => by cases z) (fun _ _ z => by cases z) (fun _ z => code_ne h2 z)
  | gdc kvs => obtain ⟨_, o, es, _, e, _, h2, _⟩ := h; exact key _ e (fun _ z => by cases z) (fun _ _ z => by cases z) (fun _ z => code_ne h2 z)
  | ins c fs => obtain ⟨_, _, vs, _, e, _⟩ := h; exact key _ e (fun _ z => by cases z) (fun _ _ z => by cases z) (fun _ z => by cases z)
  | tab x q => obtain ⟨_, ps, e, _⟩ := h; exact key _ e (fun _ z => by cases z) (fun _ _ z => by cases z) (fun _ z => by cases z)
theorem MemOk.apart {m : Mm} (h : MemOk K ι m H) : Apart ι H := fun a ha => by
  obtain ⟨n, hn, e⟩ := List.getElem_of_mem ha
  have h1 : ι[n]? = some a := by rw [List.getElem?_eq_getElem hn, e]
  have hn' : n < m.cells.length := by rw [← h.len]; exact hn
  exact (h.cell n a _ h1 (List.getElem?_eq_getElem hn')).apart
theorem MemOk.new {m : Mm} {p : Addr} (h : MemOk K ι m H) (hp : H p = none) : p ∉ ι := fun hi => (h.apart p hi).2.2.1 hp
theorem rol_step {a : Addr} {vs : List V} (ap : Apart ι H) (st : Stp ι H ι' H') (h : Rol K H a vs) : Rol K H' a vs := by
  rcases h with ⟨o, h⟩ | h
  · exact .inl ⟨o, st.fix _ _ h fun z => (ap a z).2.1 _ _ h⟩
  · exact .inr h
theorem Rol.sqL {a : Addr} {vs : List V} (h : Rol K H a vs) : SqL K H a vs := by
  rcases h with ⟨o, h⟩ | h
  · exact .inl (.inr ⟨o, h⟩)
  · exact .inr h
theorem sqT_step {a : Addr} {vs : List V} (ap : Apart ι H) (st : Stp ι H ι' H') (h : SqT K H a vs) : SqT K H' a vs := by
  rcases h with h | h
  · have n : a ∉ ι := fun z => (ap a z).1 vs h
    rcases h with h | ⟨o, h⟩
    · exact .inl (.inl (st.fix _ _ h n))
    · exact .inl (.inr ⟨o, st.fix _ _ h n⟩)
  · exact .inr h
theorem sqP_step {a : Addr} {vs : List V} (ap : Apart ι H) (st : Stp ι H ι' H') (h : SqP K H a vs) : SqP K H' a vs := by
  refine ⟨sqT_step ap st h.1, ?_⟩
  rcases h.2 with ⟨o, u, e, d⟩ | r
  · exact .inl ⟨o, u, st.fix _ _ e fun z => (ap a z).2.1 _ _ e, d⟩
  · exact .inr r
theorem SqP.new {q : Addr} {o : Obj} {xs : List V} (hd : o.dict = none) : SqP K (upd H q (.frz o (.tup xs))) q xs := ⟨.inl (.inr ⟨o, upd_same⟩), .inl ⟨o, _, upd_same, hd⟩⟩
mutual
theorem RelD.step (ap : Apart ι H) (st : Stp ι H ι' H') : ∀ {d : PyData} {v : V}, RelD K H d v → RelD K H' d v
  | _, _, .non => .non
  | _, _, .bl b => .bl b
  | _, _, .int i => .int i
  | _, _, .str x => .str x
  | _, _, .tup h hs => .tup (sqP_step ap st h) (RelDs.step ap st hs)
theorem RelDs.step (ap : Apart ι H) (st : Stp ι H ι' H') : ∀ {d : List PyData} {v : List V}, RelDs K H d v → RelDs K H' d v
  | _, _, .nil => .nil
  | _, _, .cons h hs => .cons (RelD.step ap st h) (RelDs.step ap st hs)
end
theorem pre_get {n : Nat} {a : Addr} (p : ι <+: ι') (h : ι[n]? = some a) : ι'[n]? = some a := by
  obtain ⟨t, rfl⟩ := p
  rw [List.getElem?_append_left (List.getElem?_eq_some_iff.mp h).1]
  exact h
mutual
theorem RelW.step (ap : Apart ι H) (st : Stp ι H ι' H') : ∀ {d : Wd} {v : V}, RelW K ι H d v → RelW K ι' H' d v
  | _, _, .d h => .d (h.step ap st)
  | _, _, .ref h => .ref (pre_get st.pre h)
  | _, _, .tup h hs => .tup (sqP_step ap st h) (RelWs.step ap st hs)
  | _, _, .rol h hs => .rol (rol_step ap st h) (RelWs.step ap st hs)
  | _, _, .v x => .v x
theorem RelWs.step (ap : Apart ι H) (st : Stp ι H ι' H') : ∀ {d : List Wd} {v : List V}, RelWs K ι H d v → RelWs K ι' H' d v
  | _, _, .nil => .nil
  | _, _, .cons h hs => .cons (RelW.step ap st h) (RelWs.step ap st hs)
end
theorem KvOk.step (ap : Apart ι H) (st : Stp ι H ι' H') : ∀ {d : List (PyData × Wd)} {v : List (Key × V)}, KvOk K ι H d v → KvOk K ι' H' d v
  | [], [], _ => True.intro
  | (_, _) :: _, (_, _) :: _, ⟨h1, h2, h3⟩ => ⟨h1, h2.step ap st, KvOk.step ap st h3⟩
  | [], _ :: _, h => h.elim
  | _ :: _, [], h => h.elim
theorem NvOk.step (ap : Apart ι H) (st : Stp ι H ι' H') : ∀ {d : List (PyData × Wd)} {v : List (NestedKey × Addr × Value)}, NvOk K ι H d v → NvOk K ι' H' d v
  | [], [], _ => True.intro
  | (_, _) :: _, (_, _, _) :: _, ⟨h1, h2, ⟨v, h3, h4⟩, h5⟩ => ⟨h1, h2.step ap st, ⟨v, h3.step ap st, h4⟩, NvOk.step ap st h5⟩
  | [], _ :: _, h => h.elim
  | _ :: _, [], h => h.elim
theorem GvOk.step (ap : Apart ι H) (st : Stp ι H ι' H') : ∀ {d : List (PyData × Wd)} {v : List (NestedKey × Value × Value)}, GvOk K ι H d v → GvOk K ι' H' d v
  | [], [], _ => True.intro
  | (_, _) :: _, (_, _, _) :: _, ⟨h1, ⟨y, h2, h6⟩, ⟨v, h3, h4⟩, h5⟩ => ⟨h1, ⟨y, h2.step ap st, h6⟩, ⟨v, h3.step ap st, h4⟩, GvOk.step ap st h5⟩
  | [], _ :: _, h => h.elim
  | _ :: _, [], h => h.elim
theorem FsOk.step (ap : Apart ι H) (st : Stp ι H ι' H') : ∀ {d : List (Str × Wd)} {v : List (Str × V)}, FsOk K ι H d v → FsOk K ι' H' d v
  | [], [], _ => True.intro
  | (_, _) :: _, (_, _) :: _, ⟨h1, h2, h3⟩ => ⟨h1, h2.step ap st, FsOk.step ap st h3⟩
  | [], _ :: _, h => h.elim
  | _ :: _, [], h => h.elim
theorem EnvOk.step {env : Env} {σ : L2.St} (ap : Apart ι H) (st : Stp ι H ι' H') (h : EnvOk K ι H env σ) : EnvOk K ι' H' env σ :=
  ⟨h.1, fun i w e => let ⟨v, e1, r⟩ := h.2 i w e; ⟨v, e1, r.step ap st⟩⟩
/-- a cell that itself is as it was -/
theorem CellOk.step {a : Addr} {c : Cell} (ap : Apart ι H) (st : Stp ι H ι' H') (ha : H' a = H a) (h : CellOk K ι H a c) : CellOk K ι' H' a c := by
  cases c with
  | lst xs => obtain ⟨vs, e, r⟩ := h; exact ⟨vs, ha.trans e, r.step ap st⟩
  | dct kvs => obtain ⟨ks, e, r⟩ := h; exact ⟨ks, ha.trans e, r.step ap st⟩
  | ndc kvs => obtain ⟨h0, o, es, ep, xs, e, h1, h2, h3, h4, h5, r⟩ := h; exact ⟨h0, o, es, ep, xs, ha.trans e, h1, h2, h3, h4, h5, r.step ap st⟩
  | gdc kvs => obtain ⟨h0, o, es, xs, e, h1, h2, h3, h4, h5, r⟩ := h; exact ⟨h0, o, es, xs, ha.trans e, h1, h2, h3, h4, h5, r.step ap st⟩
  | ins c fs => obtain ⟨C, dx, gs, e0, e, r⟩ := h; exact ⟨C, dx, gs, e0, ha.trans e, r.step ap st⟩
  | tab x q =>
    obtain ⟨h0, ps, e, h2, h3⟩ := h
    refine ⟨h0, ps, ha.trans e, h2, fun pos cv hc => ?_⟩
    obtain ⟨b, e1, e2⟩ := h3 pos cv hc
    exact ⟨b, e1, st.fix _ _ e2 fun z => (ap b z).2.2.2 _ e2⟩
theorem RelWs.length : ∀ {ws : List Wd} {vs : List V}, RelWs K ι H ws vs → ws.length = vs.length
  | _, _, .nil => rfl
  | _, _, .cons _ h => congrArg (· + 1) (RelWs.length h)
theorem RelDs.length : ∀ {ws : List PyData} {vs : List V}, RelDs K H ws vs → ws.length = vs.length
  | _, _, .nil => rfl
  | _, _, .cons _ h => congrArg (· + 1) (RelDs.length h)
theorem RelWs.get : ∀ {ws : List Wd} {vs : List V} {i : Nat} {w : Wd}, RelWs K ι H ws vs → ws[i]? = some w → ∃ v, vs[i]? = some v ∧ RelW K ι H w v
  | _, _, i, w, .nil, e => by simp at e
  | _, _, 0, w, .cons h _, e => by simp at e; subst e; exact ⟨_, rfl, h⟩
  | _, _, i + 1, w, .cons _ h, e => by
    obtain ⟨v, e1, r⟩ := RelWs.get (i := i) (w := w) h (by simpa using e)
    exact ⟨v, by simpa using e1, r⟩
theorem RelWs.append : ∀ {ws ws' : List Wd} {vs vs' : List V}, RelWs K ι H ws vs → RelWs K ι H ws' vs' → RelWs K ι H (ws ++ ws') (vs ++ vs')
  | _, _, _, _, .nil, h => h
  | _, _, _, _, .cons h hs, h' => .cons h (RelWs.append hs h')
theorem RelWs.take : ∀ {ws : List Wd} {vs : List V} (n : Nat), RelWs K ι H ws vs → RelWs K ι H (ws.take n) (vs.take n)
  | _, _, 0, _ => .nil
  | _, _, _ + 1, .nil => .nil
  | _, _, n + 1, .cons h hs => .cons h (RelWs.take n hs)
theorem RelWs.drop : ∀ {ws : List Wd} {vs : List V} (n : Nat), RelWs K ι H ws vs → RelWs K ι H (ws.drop n) (vs.drop n)
  | _, _, 0, h => h
  | _, _, _ + 1, .nil => .nil
  | _, _, n + 1, .cons h hs => RelWs.drop n hs
theorem RelWs.set {w : Wd} {v : V} (r : RelW K ι H w v) : ∀ {ws : List Wd} {vs : List V} (n : Nat), RelWs K ι H ws vs → RelWs K ι H (ws.set n w) (vs.set n v)
  | _, _, _, .nil => .nil
  | _, _, 0, .cons h hs => .cons r hs
  | _, _, n + 1, .cons h hs => .cons h (RelWs.set r n hs)
theorem RelDs.ws : ∀ {ds : List PyData} {vs : List V}, RelDs K H ds vs → RelWs K ι H (ds.map .d) vs
  | _, _, .nil => .nil
  | _, _, .cons h hs => .cons (.d h) (RelDs.ws hs)
theorem RelWs.ds : ∀ {ds : List PyData} {vs : List V}, RelWs K ι H (ds.map .d) vs → RelDs K H ds vs
  | [], _, h => by cases h; exact .nil
  | d :: ds, _, h => by
    cases h with
    | cons h hs => cases h with
      | d h => exact .cons h (RelWs.ds hs)
def allD : List Wd → Option (List PyData)
  | [] => some []
  | .d x :: r => (allD r).map (x :: ·)
  | _ :: _ => none
theorem allD_eq : ∀ {ws : List Wd} {ds : List PyData}, allD ws = some ds → ws = ds.map .d
  | [], ds, h => by cases h; rfl
  | .d x :: r, ds, h => by
    cases q : allD r with
    | none => simp [allD, q] at h
    | some es =>
      simp [allD, q] at h
      subst h
      rw [allD_eq q]; rfl
  | .ref _ :: _, _, h => by cases h
  | .tup _ :: _, _, h => by cases h
  | .rol _ :: _, _, h => by cases h
  | .v _ :: _, _, h => by cases h
@[simp] theorem allD_map : ∀ ds : List PyData, allD (ds.map .d) = some ds
  | [] => rfl
  | d :: ds => by simp [allD, allD_map ds]
def mkTup (ws : List Wd) : Wd := match allD ws with
  | some ds => .d (.tuple ds)
  | none => .tup ws
@[simp] theorem mkTup_map (ds : List PyData) : mkTup (ds.map .d) = .d (.tuple ds) := by simp [mkTup]
theorem mkTup_ok {a : Addr} {vs : List V} {ws : List Wd} (h : SqP K H a vs) (r : RelWs K ι H ws vs) : RelW K ι H (mkTup ws) (.ref a) := by
  unfold mkTup
  cases q : allD ws with
  | none => exact .tup h r
  | some ds =>
    rw [allD_eq q] at r
    exact .d (.tup h r.ds)
/-- the items of a tuple -/
def tupOf : Wd → Option (List Wd)
  | .d (.tuple ds) => some (ds.map .d)
  | .tup ws => some ws
  | _ => none
theorem tupOf_okP {w : Wd} {ws : List Wd} {v : V} (e : tupOf w = some ws) (r : RelW K ι H w v) : ∃ a vs, v = .ref a ∧ SqP K H a vs ∧ RelWs K ι H ws vs := by
  cases r with
  | d h =>
    cases h with
    | tup h hs => cases e; exact ⟨_, _, rfl, h, hs.ws⟩
    | _ => cases e
  | tup h hs => cases e; exact ⟨_, _, rfl, h, hs⟩
  | ref _ => cases e
  | rol _ _ => cases e
  | v _ => cases e
theorem tupOf_ok {w : Wd} {ws : List Wd} {v : V} (e : tupOf w = some ws) (r : RelW K ι H w v) : ∃ a vs, v = .ref a ∧ SqT K H a vs ∧ RelWs K ι H ws vs :=
  let ⟨a, vs, h1, h2, h3⟩ := tupOf_okP e r
  ⟨a, vs, h1, h2.1, h3⟩
end
end DL
set_option Elab.async false
set_option linter.all false
set_option maxRecDepth 100000
set_option maxHeartbeats 2000000
namespace DL
open PySem PySem.Spec PyProof.Rows L2
section
variable (K : Kw)
def ExOk (ι : List Addr) (H : Hp) (x : Ex) (cls : Value) (d : Option Addr) : Prop :=
  ∃ C, PySem.W.nsIn K mainGlobals x.cls = some (some (.ref C)) ∧ cls = .ref C ∧
    ((x.fs = [] ∧ d = none) ∨ ∃ dd gs, d = some dd ∧ H dd = some (.xd gs) ∧ FsOk K ι H x.fs gs)
def Post {α β : Type} (W : L2.WX) (rel : List Addr → Hp → α → β → Prop) (ι : List Addr) (H : Hp) (σ : L2.St) (Q : β → Hp → Prop) : Rs α → Prop
  | .ok a m => ∀ ι' H' b, Stp ι H ι' H' → MemOk K ι' m H' → rel ι' H' a b → Q b H'
  | .exc x m => ∀ ι' H' cls d, Stp ι H ι' H' → MemOk K ι' m H' → ExOk K ι' H' x cls d → W cls d σ H'
  | .stuck => False
def tG {α β : Type} (W : L2.WX) (rel : List Addr → Hp → α → β → Prop) (f : Em α) : L2.St → Hp → (β → Hp → Prop) → Prop := fun σ H Q =>
  ∃ ι env m, EnvOk K ι H env σ ∧ MemOk K ι m H ∧ Post K W rel ι H σ Q (f env m)
abbrev tE (W : L2.WX) (f : Em Wd) : TE := tG K W (RelW K) f
abbrev tT (W : L2.WX) (f : Em Bool) : TT := tG K W (fun _ _ a b => a = b) f
abbrev tA (W : L2.WX) (f : Em (List Wd)) : TA := tG K W (RelWs K) f
def PostS (W : L2.WX) (D : Ends) (ι : List Addr) (H : Hp) : Sr → Prop
  | .go .nx env m => ∀ ι' H' σ, Stp ι H ι' H' → MemOk K ι' m H' → EnvOk K ι' H' env σ → D.nx σ H'
  | .go .bk env m => ∀ ι' H' σ, Stp ι H ι' H' → MemOk K ι' m H' → EnvOk K ι' H' env σ → D.bk σ H'
  | .go .ct env m => ∀ ι' H' σ, Stp ι H ι' H' → MemOk K ι' m H' → EnvOk K ι' H' env σ → D.ct σ H'
  | .go (.rt w) env m => ∀ ι' H' v, Stp ι H ι' H' → MemOk K ι' m H' → RelW K ι' H' w v → D.rt v H'
  | .exc x env m => ∀ ι' H' σ cls d, Stp ι H ι' H' → MemOk K ι' m H' → EnvOk K ι' H' env σ → ExOk K ι' H' x cls d → W cls d σ H'
  | .stuck => False
def tS (W : L2.WX) (f : Sm) : TS := fun D σ H => ∃ ι env m, EnvOk K ι H env σ ∧ MemOk K ι m H ∧ PostS K W D ι H (f env m)
end
abbrev W0 : L2.WX := fun _ _ _ _ => False
section
variable {K : Kw} {W : L2.WX} {ι ι' ι1 : List Addr} {H H' H1 : Hp} {σ : L2.St}
theorem Post.step {α β : Type} {rel : List Addr → Hp → α → β → Prop} {Q : β → Hp → Prop} {r : Rs α} (st : Stp ι H ι1 H1) (h : Post K W rel ι H σ Q r) : Post K W rel ι1 H1 σ Q r := by
  cases r with
  | ok a m => exact fun ι' H' b s mo r => h ι' H' b (st.trans s) mo r
  | exc x m => exact fun ι' H' c d s mo r => h ι' H' c d (st.trans s) mo r
  | stuck => exact h
theorem PostS.step {D : Ends} {r : Sr} (st : Stp ι H ι1 H1) (h : PostS K W D ι H r) : PostS K W D ι1 H1 r := by
  cases r with
  | go f e m =>
    cases f with
    | nx => exact fun ι' H' b s mo r => h ι' H' b (st.trans s) mo r
    | bk => exact fun ι' H' b s mo r => h ι' H' b (st.trans s) mo r
    | ct => exact fun ι' H' b s mo r => h ι' H' b (st.trans s) mo r
    | rt w => exact fun ι' H' b s mo r => h ι' H' b (st.trans s) mo r
  | exc x e m => exact fun ι' H' b c d s mo r => h ι' H' b c d (st.trans s) mo r
  | stuck => exact h
/-- a first part, then the rest -/
theorem Post.bind {α β γ δ : Type} {ra : List Addr → Hp → α → β → Prop} {rc : List Addr → Hp → γ → δ → Prop} {Q : δ → Hp → Prop} {P : β → Hp → Prop} {f : Em α} {k : α → Mm → Rs γ} {env : Env} {m : Mm}
    (eo : EnvOk K ι H env σ) (mo : MemOk K ι m H) (p : Post K W rc ι H σ Q ((f env m).bind k))
    (h : ∀ ι1 H1 a b m1, Stp ι H ι1 H1 → MemOk K ι1 m1 H1 → EnvOk K ι1 H1 env σ → ra ι1 H1 a b → Post K W rc ι1 H1 σ Q (k a m1) → P b H1) : tG K W ra f σ H P := by
  refine ⟨ι, env, m, eo, mo, ?_⟩
  cases e : f env m with
  | ok a m1 => rw [e] at p; exact fun ι1 H1 b st mo1 r => h ι1 H1 a b m1 st mo1 (eo.step mo.apart st) r (p.step st)
  | exc x m1 => rw [e] at p; exact p
  | stuck => rw [e] at p; exact p
/-- the state after an expression, then a statement's rest -/
theorem PostS.bind {α β : Type} {ra : List Addr → Hp → α → β → Prop} {D : Ends} {P : β → Hp → Prop} {f : Em α} {k : α → Mm → Sr} {env : Env} {m : Mm}
    (eo : EnvOk K ι H env σ) (mo : MemOk K ι m H) (p : PostS K W D ι H (match f env m with | .ok a m1 => k a m1 | .exc x m1 => .exc x env m1 | .stuck => .stuck))
    (h : ∀ ι1 H1 a b m1, Stp ι H ι1 H1 → MemOk K ι1 m1 H1 → EnvOk K ι1 H1 env σ → ra ι1 H1 a b → PostS K W D ι1 H1 (k a m1) → P b H1) : tG K W ra f σ H P := by
  refine ⟨ι, env, m, eo, mo, ?_⟩
  cases e : f env m with
  | ok a m1 => rw [e] at p; exact fun ι1 H1 b st mo1 r => h ι1 H1 a b m1 st mo1 (eo.step mo.apart st) r (p.step st)
  | exc x m1 =>
    rw [e] at p
    exact fun ι1 H1 c d st mo1 xo => p ι1 H1 σ c d st mo1 (eo.step mo.apart st) xo
  | stuck => rw [e] at p; exact p
/-- one that makes a new cell, one that changes nothing -/
theorem stp_new {p : Addr} {o : HO} (hp : H p = none) : Stp ι H (ι ++ [p]) (upd H p o) where
  pre := List.prefix_append _ _
  new := fun a ha n => by
    rcases List.mem_append.mp ha with h | h
    · exact absurd h n
    · rw [List.mem_singleton.mp h]; exact hp
  fix := fun a u h n => by rw [upd_ne (ne_of_none h hp)]; exact h
theorem stp_tup {p : Addr} {o : HO} (hp : H p = none) : Stp ι H ι (upd H p o) where
  pre := List.prefix_refl _
  new := fun a ha n => absurd ha n
  fix := fun a u h n => by rw [upd_ne (ne_of_none h hp)]; exact h
theorem stp_set {p : Addr} {o : HO} (hi : p ∈ ι) : Stp ι H ι (upd H p o) where
  pre := List.prefix_refl _
  new := fun a ha n => absurd ha n
  fix := fun a u h n => by
    rw [upd_ne (fun z => n (by rw [z]; exact hi))]; exact h
end
end DL
set_option Elab.async false
set_option linter.all false
set_option maxRecDepth 100000
set_option maxHeartbeats 2000000
namespace DL
open PySem PySem.Spec PyProof.Rows L2
def Mm.push (m : Mm) (c : Cell) : Mm := ⟨m.cells ++ [c], m.stk⟩
/-- the cell n is c from now on; pure: no older scope need be told -/
def Mm.put (m : Mm) (n : Nat) (c : Cell) (pure : Bool) : Mm := ⟨m.cells.set n c, if pure then m.stk else m.stk.map fun p => (p.1, n :: p.2)⟩
def Mm.openS (m : Mm) : Mm := ⟨m.cells, (m.cells.length, []) :: m.stk⟩
/-- a scope that began at n0 ends; held: what is still held lies below -/
def Mm.closeS (m : Mm) (n0 : Nat) (held : Bool) : Mm := match m.stk with
  | [] => m
  | (b, ds) :: r => if (decide (b = n0) && held && ds.all fun n => decide (n0 ≤ n) || (match m.cells[n]? with | some c => c.lt n0 | none => true)) = true then ⟨m.cells.take n0, r⟩ else ⟨m.cells, r⟩
section
variable {K : Kw} {ι ι' : List Addr} {H H' : Hp} {m : Mm}
theorem get_of {α : Type} {l : List α} {i : Nat} {x : α} (h : l[i]? = some x) : i < l.length := (List.getElem?_eq_some_iff.mp h).1
theorem nodup_get {α : Type} {l : List α} (hn : l.Nodup) {i j : Nat} {x : α} (a : l[i]? = some x) (b : l[j]? = some x) : i = j := by
  obtain ⟨h1, e1⟩ := List.getElem?_eq_some_iff.mp a
  obtain ⟨h2, e2⟩ := List.getElem?_eq_some_iff.mp b
  exact (List.getElem_inj hn).mp (e1.trans e2.symm)
theorem MemOk.push {c : Cell} {p : Addr} {o : HO} (mo : MemOk K ι m H) (hp : H p = none) (h : CellOk K (ι ++ [p]) (upd H p o) p c) : MemOk K (ι ++ [p]) (m.push c) (upd H p o) := by
  have hni := mo.new hp
  refine ⟨by simp [Mm.push, mo.len], ?_, fun n a c' h1 h2 => ?_, fun q hq => ?_, ?_, fun q hq n c' hn hd hc => ?_⟩
  · rw [List.nodup_append]
    exact ⟨mo.nd, by simp, fun a ha b hb e => hni (by rw [List.mem_singleton.mp hb] at e; rw [← e]; exact ha)⟩
  · by_cases hlt : n < ι.length
    · rw [List.getElem?_append_left hlt] at h1
      have h2' : m.cells[n]? = some c' := by
        have : (m.cells ++ [c])[n]? = some c' := h2
        rwa [List.getElem?_append_left (by rw [← mo.len]; exact hlt)] at this
      have hne : a ≠ p := fun e => hni (by rw [← e]; exact List.mem_of_getElem? h1)
      exact (mo.cell n a c' h1 h2').step mo.apart (stp_new hp) (upd_ne hne)
    · have hl := get_of h1
      rw [List.length_append, List.length_singleton] at hl
      have e : n = ι.length := by omega
      subst e
      have e1 : a = p := by simpa using h1.symm
      have e2 : c' = c := by
        have : (m.cells ++ [c])[ι.length]? = some c' := h2
        rw [mo.len] at this
        simpa using this.symm
      subst e1; subst e2
      exact h
  · have := mo.top q hq
    show q.1 ≤ (m.cells ++ [c]).length
    rw [List.length_append]; omega
  · exact mo.ord
  · have ht := mo.top q hq
    have hc' : (m.cells ++ [c])[n]? = some c' := hc
    rw [List.getElem?_append_left (by omega)] at hc'
    exact mo.clean q hq n c' hn hd hc'
/-- new values beside: nothing that is tracked changes -/
theorem MemOk.stay {ι' : List Addr} (mo : MemOk K ι m H) (st : Stp ι H ι H') (h : ∀ a ∈ ι, H' a = H a) : MemOk K ι m H' :=
  ⟨mo.len, mo.nd, fun n a c h1 h2 => (mo.cell n a c h1 h2).step mo.apart st (h a (List.mem_of_getElem? h1)), mo.top, mo.ord, mo.clean⟩
theorem MemOk.tup {p : Addr} {o : HO} (mo : MemOk K ι m H) (hp : H p = none) : MemOk K ι m (upd H p o) :=
  mo.stay (ι' := ι) (stp_tup hp) fun a ha => upd_ne fun e => mo.new hp (by rw [← e]; exact ha)
theorem MemOk.put {c c' : Cell} {n : Nat} {a : Addr} {o : HO} {pure : Bool} (mo : MemOk K ι m H) (hn : ι[n]? = some a) (hc : m.cells[n]? = some c) (h : CellOk K ι (upd H a o) a c')
    (hp : pure = true → ∀ b, c.lt b = true → c'.lt b = true) : MemOk K ι (m.put n c' pure) (upd H a o) := by
  have ha : a ∈ ι := List.mem_of_getElem? hn
  refine ⟨by simp [Mm.put, mo.len], mo.nd, fun n' a' d h1 h2 => ?_, fun q hq => ?_, ?_, fun q hq n' d hlt hd hq2 => ?_⟩
  · have h2' : (m.cells.set n c')[n']? = some d := h2
    by_cases e : n' = n
    · subst e
      rw [h1] at hn; cases hn
      rw [List.getElem?_set_self (by rw [← mo.len]; exact get_of h1)] at h2'
      cases h2'
      exact h
    · rw [List.getElem?_set_ne (Ne.symm e)] at h2'
      have hne : a' ≠ a := fun z => e (nodup_get mo.nd h1 (by rw [z]; exact hn))
      exact (mo.cell n' a' d h1 h2').step mo.apart (stp_set ha) (upd_ne hne)
  · show q.1 ≤ (m.cells.set n c').length
    rw [List.length_set]
    have hq' : q ∈ (if pure then m.stk else m.stk.map fun p => (p.1, n :: p.2)) := hq
    cases pure with
    | true => exact mo.top q hq'
    | false =>
      obtain ⟨q0, h0, e⟩ := List.mem_map.mp hq'
      subst e
      exact mo.top q0 h0
  · show ((if pure then m.stk else m.stk.map fun p => (p.1, n :: p.2)).map (·.1)).Pairwise _
    cases pure with
    | true => exact mo.ord
    | false =>
      rw [if_neg (by decide), List.map_map]
      exact mo.ord
  · have h2' : (m.cells.set n c')[n']? = some d := hq2
    have hq' : q ∈ (if pure then m.stk else m.stk.map fun p => (p.1, n :: p.2)) := hq
    cases pure with
    | true =>
      by_cases e : n' = n
      · subst e
        rw [List.getElem?_set_self (get_of hc)] at h2'
        cases h2'
        exact hp rfl _ (mo.clean q hq' n' c hlt hd hc)
      · rw [List.getElem?_set_ne (Ne.symm e)] at h2'
        exact mo.clean q hq' n' d hlt hd h2'
    | false =>
      obtain ⟨q0, h0, e0⟩ := List.mem_map.mp hq'
      subst e0
      have e : n' ≠ n := fun z => hd (by rw [z]; exact List.mem_cons_self)
      rw [List.getElem?_set_ne (Ne.symm e)] at h2'
      exact mo.clean q0 h0 n' d hlt (fun z => hd (List.mem_cons_of_mem _ z)) h2'
mutual
theorem RelW.lt : ∀ {w : Wd} {v : V}, RelW K ι H w v → Wd.lt ι.length w = true
  | _, _, .d _ => rfl
  | _, _, .ref h => decide_eq_true (get_of h)
  | _, _, .tup _ h => RelWs.lt h
  | _, _, .rol _ h => RelWs.lt h
  | _, _, .v _ => rfl
theorem RelWs.lt : ∀ {w : List Wd} {v : List V}, RelWs K ι H w v → Wd.ltAll ι.length w = true
  | _, _, .nil => rfl
  | _, _, .cons h hs => by
    show (Wd.lt ι.length _ && Wd.ltAll ι.length _) = true
    rw [RelW.lt h, RelWs.lt hs]; rfl
end
theorem KvOk.lt : ∀ {d : List (PyData × Wd)} {v : List (Key × V)}, KvOk K ι H d v → Wd.ltAll ι.length (d.map (·.2)) = true
  | [], [], _ => rfl
  | (_, w) :: r, (_, _) :: _, ⟨_, h2, h3⟩ => by
    show (Wd.lt ι.length w && Wd.ltAll ι.length (r.map (·.2))) = true
    rw [h2.lt, KvOk.lt h3]; rfl
  | [], _ :: _, h => h.elim
  | _ :: _, [], h => h.elim
theorem NvOk.lt : ∀ {d : List (PyData × Wd)} {v : List (NestedKey × Addr × Value)}, NvOk K ι H d v → Wd.ltAll ι.length (d.map (·.2)) = true
  | [], [], _ => rfl
  | (_, w) :: r, (_, _, _) :: _, ⟨_, _, ⟨_, h2, _⟩, h3⟩ => by
    show (Wd.lt ι.length w && Wd.ltAll ι.length (r.map (·.2))) = true
    rw [h2.lt, NvOk.lt h3]; rfl
  | [], _ :: _, h => h.elim
  | _ :: _, [], h => h.elim
theorem GvOk.lt : ∀ {d : List (PyData × Wd)} {v : List (NestedKey × Value × Value)}, GvOk K ι H d v → Wd.ltAll ι.length (d.map (·.2)) = true
  | [], [], _ => rfl
  | (_, w) :: r, (_, _, _) :: _, ⟨_, _, ⟨_, h2, _⟩, h3⟩ => by
    show (Wd.lt ι.length w && Wd.ltAll ι.length (r.map (·.2))) = true
    rw [h2.lt, GvOk.lt h3]; rfl
  | [], _ :: _, h => h.elim
  | _ :: _, [], h => h.elim
theorem FsOk.lt : ∀ {d : List (Str × Wd)} {v : List (Str × V)}, FsOk K ι H d v → Wd.ltAll ι.length (d.map (·.2)) = true
  | [], [], _ => rfl
  | (_, w) :: r, (_, _) :: _, ⟨_, h2, h3⟩ => by
    show (Wd.lt ι.length w && Wd.ltAll ι.length (r.map (·.2))) = true
    rw [h2.lt, FsOk.lt h3]; rfl
  | [], _ :: _, h => h.elim
  | _ :: _, [], h => h.elim
theorem CellOk.lt {a : Addr} {c : Cell} (h : CellOk K ι H a c) : c.lt ι.length = true := by
  cases c with
  | lst xs => obtain ⟨_, _, r⟩ := h; exact r.lt
  | dct xs => obtain ⟨_, _, r⟩ := h; exact r.lt
  | ndc xs => obtain ⟨_, _, _, _, _, _, _, _, _, _, _, r⟩ := h; exact r.lt
  | gdc xs => obtain ⟨_, _, _, _, _, _, _, _, _, _, r⟩ := h; exact r.lt
  | ins c xs => obtain ⟨_, _, _, _, _, r⟩ := h; exact r.lt
  | tab x q => rfl
theorem MemOk.openS (mo : MemOk K ι m H) : MemOk K ι m.openS H := by
  refine ⟨mo.len, mo.nd, mo.cell, fun q hq => ?_, ?_, fun q hq n c hlt hd hc => ?_⟩
  · rcases List.mem_cons.mp hq with e | hq
    · subst e; exact Nat.le_refl _
    · exact mo.top q hq
  · show (m.cells.length :: m.stk.map (·.1)).Pairwise _
    refine List.pairwise_cons.mpr ⟨fun x hx => ?_, mo.ord⟩
    obtain ⟨q, hq, e⟩ := List.mem_map.mp hx
    subst e
    exact mo.top q hq
  · rcases List.mem_cons.mp hq with e | hq
    · subst e
      have hc' : m.cells[n]? = some c := hc
      have hn : n < ι.length := by rw [mo.len]; exact get_of hc'
      have := (mo.cell n _ c (List.getElem?_eq_getElem hn) hc').lt
      rw [mo.len] at this
      exact this
    · exact mo.clean q hq n c hlt hd hc
theorem take_get {α : Type} {l : List α} {b n : Nat} {x : α} (h : l[n]? = some x) (hn : n < b) : (l.take b)[n]? = some x := by
  rw [List.getElem?_take, if_pos hn]; exact h
mutual
theorem RelW.take {b : Nat} : ∀ {w : Wd} {v : V}, RelW K ι H w v → Wd.lt b w = true → RelW K (ι.take b) H w v
  | _, _, .d h, _ => .d h
  | _, _, .ref h, e => .ref (take_get h (of_decide_eq_true e))
  | _, _, .tup h hs, e => .tup h (RelWs.takeI hs e)
  | _, _, .rol h hs, e => .rol h (RelWs.takeI hs e)
  | _, _, .v x, _ => .v x
theorem RelWs.takeI {b : Nat} : ∀ {w : List Wd} {v : List V}, RelWs K ι H w v → Wd.ltAll b w = true → RelWs K (ι.take b) H w v
  | _, _, .nil, _ => .nil
  | _, _, .cons h hs, e => by
    have e' : (Wd.lt b _ && Wd.ltAll b _) = true := e
    rw [Bool.and_eq_true] at e'
    exact .cons (RelW.take h e'.1) (RelWs.takeI hs e'.2)
end
theorem KvOk.takeI {b : Nat} : ∀ {d : List (PyData × Wd)} {v : List (Key × V)}, KvOk K ι H d v → Wd.ltAll b (d.map (·.2)) = true → KvOk K (ι.take b) H d v
  | [], [], _, _ => True.intro
  | (_, w) :: r, (_, _) :: _, ⟨h1, h2, h3⟩, e => by
    have e' : (Wd.lt b w && Wd.ltAll b (r.map (·.2))) = true := e
    rw [Bool.and_eq_true] at e'
    exact ⟨h1, h2.take e'.1, KvOk.takeI h3 e'.2⟩
  | [], _ :: _, h, _ => h.elim
  | _ :: _, [], h, _ => h.elim
theorem NvOk.takeI {b : Nat} : ∀ {d : List (PyData × Wd)} {v : List (NestedKey × Addr × Value)}, NvOk K ι H d v → Wd.ltAll b (d.map (·.2)) = true → NvOk K (ι.take b) H d v
  | [], [], _, _ => True.intro
  | (_, w) :: r, (_, _, _) :: _, ⟨h1, h2, ⟨v, h3, h4⟩, h5⟩, e => by
    have e' : (Wd.lt b w && Wd.ltAll b (r.map (·.2))) = true := e
    rw [Bool.and_eq_true] at e'
    exact ⟨h1, h2, ⟨v, h3.take e'.1, h4⟩, NvOk.takeI h5 e'.2⟩
  | [], _ :: _, h, _ => h.elim
  | _ :: _, [], h, _ => h.elim
theorem GvOk.takeI {b : Nat} : ∀ {d : List (PyData × Wd)} {v : List (NestedKey × Value × Value)}, GvOk K ι H d v → Wd.ltAll b (d.map (·.2)) = true → GvOk K (ι.take b) H d v
  | [], [], _, _ => True.intro
  | (_, w) :: r, (_, _, _) :: _, ⟨h1, h2, ⟨v, h3, h4⟩, h5⟩, e => by
    have e' : (Wd.lt b w && Wd.ltAll b (r.map (·.2))) = true := e
    rw [Bool.and_eq_true] at e'
    exact ⟨h1, h2, ⟨v, h3.take e'.1, h4⟩, GvOk.takeI h5 e'.2⟩
  | [], _ :: _, h, _ => h.elim
  | _ :: _, [], h, _ => h.elim
theorem FsOk.takeI {b : Nat} : ∀ {d : List (Str × Wd)} {v : List (Str × V)}, FsOk K ι H d v → Wd.ltAll b (d.map (·.2)) = true → FsOk K (ι.take b) H d v
  | [], [], _, _ => True.intro
  | (_, w) :: r, (_, _) :: _, ⟨h1, h2, h3⟩, e => by
    have e' : (Wd.lt b w && Wd.ltAll b (r.map (·.2))) = true := e
    rw [Bool.and_eq_true] at e'
    exact ⟨h1, h2.take e'.1, FsOk.takeI h3 e'.2⟩
  | [], _ :: _, h, _ => h.elim
  | _ :: _, [], h, _ => h.elim
theorem CellOk.takeI {a : Addr} {c : Cell} {b : Nat} (h : CellOk K ι H a c) (e : c.lt b = true) : CellOk K (ι.take b) H a c := by
  cases c with
  | lst xs => obtain ⟨vs, q, r⟩ := h; exact ⟨vs, q, r.takeI e⟩
  | dct xs => obtain ⟨vs, q, r⟩ := h; exact ⟨vs, q, r.takeI e⟩
  | ndc xs => obtain ⟨h0, o, es, ep, xs, q, h1, h2, h3, h4, h5, r⟩ := h; exact ⟨h0, o, es, ep, xs, q, h1, h2, h3, h4, h5, r.takeI e⟩
  | gdc xs => obtain ⟨h0, o, es, xs, q, h1, h2, h3, h4, h5, r⟩ := h; exact ⟨h0, o, es, xs, q, h1, h2, h3, h4, h5, r.takeI e⟩
  | ins c xs => obtain ⟨C, dx, vs, q0, q, r⟩ := h; exact ⟨C, dx, vs, q0, q, r.takeI e⟩
  | tab x q => exact h
theorem MemOk.closeS {n0 : Nat} {held : Bool} (mo : MemOk K ι m H) : ∃ ι2, ι2 <+: ι ∧ MemOk K ι2 (m.closeS n0 held) H ∧ (ι2 = ι ∨ (held = true ∧ ι2 = ι.take n0)) := by
  unfold Mm.closeS
  cases hs : m.stk with
  | nil => exact ⟨ι, List.prefix_refl _, mo, .inl rfl⟩
  | cons p r =>
    obtain ⟨b, ds⟩ := p
    have mr : MemOk K ι ⟨m.cells, r⟩ H := ⟨mo.len, mo.nd, mo.cell, fun q hq => mo.top q (by rw [hs]; exact List.mem_cons_of_mem _ hq), by have := mo.ord; rw [hs] at this; exact (List.pairwise_cons.mp this).2, fun q hq => mo.clean q (by rw [hs]; exact List.mem_cons_of_mem _ hq)⟩
    simp only []
    by_cases hb : (decide (b = n0) && held && ds.all fun n => decide (n0 ≤ n) || (match m.cells[n]? with | some c => c.lt n0 | none => true)) = true
    · rw [if_pos hb]
      rw [Bool.and_eq_true, Bool.and_eq_true] at hb
      obtain ⟨⟨e1, e2⟩, e3⟩ := hb
      have e1 := of_decide_eq_true e1
      subst e1
      have hle : b ≤ m.cells.length := mo.top (b, ds) (by rw [hs]; exact List.mem_cons_self)
      refine ⟨ι.take b, List.take_prefix _ _, ⟨by simp [mo.len], mo.nd.sublist (List.take_sublist _ _), fun n a c h1 h2 => ?_, fun q hq => ?_, mr.ord, fun q hq n c hlt hd hc => ?_⟩, .inr ⟨e2, rfl⟩⟩
      · have h2' : (m.cells.take b)[n]? = some c := h2
        have hn : n < b := by
          have := get_of h2'
          rw [List.length_take] at this
          omega
        rw [List.getElem?_take, if_pos hn] at h1 h2'
        refine (mo.cell n a c h1 h2').takeI ?_
        by_cases hd : n ∈ ds
        · have := List.all_eq_true.mp e3 n hd
          rw [Bool.or_eq_true] at this
          rcases this with z | z
          · exact absurd (of_decide_eq_true z) (by omega)
          · rw [h2'] at z; exact z
        · exact mo.clean (b, ds) (by rw [hs]; exact List.mem_cons_self) n c hn hd h2'
      · have := mo.ord
        rw [hs] at this
        have hq1 : q.1 ≤ b := (List.pairwise_cons.mp this).1 q.1 (List.mem_map.mpr ⟨q, hq, rfl⟩)
        show q.1 ≤ (m.cells.take b).length
        rw [List.length_take]
        omega
      · have hc' : (m.cells.take b)[n]? = some c := hc
        have hn : n < b := by
          have := get_of hc'
          rw [List.length_take] at this
          omega
        rw [List.getElem?_take, if_pos hn] at hc'
        exact mr.clean q hq n c hlt hd hc'
    · rw [if_neg hb]
      exact ⟨ι, List.prefix_refl _, mr, .inl rfl⟩
end
end DL
set_option Elab.async false
set_option linter.all false
set_option maxRecDepth 100000
set_option maxHeartbeats 2000000
namespace L2
open PySem PySem.Spec PyProof.Rows
abbrev NewT (H : Hp) (xs : List V) (Q : VK) : Prop := ∀ (p : Addr) (o : Obj), H p = none → o.dict = none → Q (.ref p) (upd H p (.frz o (.tup xs)))
section
variable {X : Cx} {pins : List (Addr × Obj)} {σ : St} {H : Hp} {s : Shared} {h' : Heap} {xs : List V} {its : List Value} {tk : Nat}
/-- such a tuple is laid -/
theorem Inv.layT (I : Inv X pins σ H { s with heap := h', toks := tk }) (r : Vals xs its) (hz : xs.length ≤ sizeLine) :
    Inv X pins σ (upd H h'.objs.size (.frz { cls := .type "tuple", data := .seq its.toArray } (.tup xs))) { s with heap := h'.push { cls := .type "tuple", data := .seq its.toArray }, toks := tk } ∧ H h'.objs.size = none := by
  refine ⟨I.laid (t' := tk) (fun b o e => Heap.get?_push_of_some _ e) (Nat.le_refl _) ?_, I.hok.fresh (Nat.le_refl _)⟩
  show ObjOk X.prog X.w _ _ _ (.frz _ (.tup xs))
  exact ⟨Heap.get?_push_size _ rfl, hz, its, r, IsTup.new _ _⟩
def tTupN (t : TA) : TE := fun σ H Q => t σ H fun xs H1 => xs.length ≤ sizeLine ∧ NewT H1 xs Q
theorem pe_tupN {es : List Expr} {x1} {pos : Pos} {t : TA} (h : PA X es t) : PE X (.Tuple es x1 pos) (tTupN t) := by
  refine ⟨fun pins s σ H Q I hq => ?_⟩
  refine wpAny_Tuple_spliced (thn (h.run pos pins s σ H _ I hq) fun us s1 ⟨xs, H1, I1, r, z, q⟩ => ⟨by rw [← r.length]; exact z, ?_⟩)
  obtain ⟨J, hf⟩ := Inv.layT (s := s1) (h' := s1.heap) (tk := s1.toks) I1 r z
  exact ⟨.ref s1.heap.objs.size, _, J, rfl, q _ _ hf rfl⟩
/-- t[lo:hi], not the whole of it -/
def rSlN (K : PySem.W.Frag) : V → Option Int → Option Int → Hp → VK → Prop := fun x lo hi H Q => ∃ a xs, x = .ref a ∧ SqT K H a xs ∧ ¬ (HT.sIx xs.length 0 lo = 0 ∧ HT.sIx xs.length xs.length hi = xs.length) ∧ NewT H (cutV xs lo hi) Q
theorem sl_tupN : SlR X (rSlN X.K) := by
  intro pins s σ H x v vl vu lo hi sl Q I rx hs pl pu h
  obtain ⟨a, xs, rfl, hx, hw, q⟩ := h
  cases rx
  obtain ⟨its, r, ht, hz⟩ := I.tuple hx
  have hlen : its.toArray.size = xs.length := by rw [List.size_toArray]; exact r.length.symm
  refine ⟨"tuple", _, PyProof.Rows.slot_tuple_getitem.lookup, ht.typeIs, ?_⟩
  refine HT.getItem_tuple_cut ht hs pl pu (by rw [hlen]; exact hw) ?_ (by rw [hlen]; exact hz)
  rw [hlen]
  obtain ⟨J, hf⟩ := Inv.layT (s := s) (h' := s.heap) (tk := s.toks) I ((r.drop (HT.sIx xs.length 0 lo)).take (HT.sIx xs.length xs.length hi - HT.sIx xs.length 0 lo)) (Nat.le_trans (cutV_length xs lo hi) hz)
  exact ⟨.ref s.heap.objs.size, _, J, rfl, q _ _ hf rfl⟩
/-- t + u, t not empty: u empty gives t itself -/
def rCatN (K : PySem.W.Frag) : R2 := fun x y H Q => ∃ a b xs ys, x = .ref a ∧ y = .ref b ∧ SqT K H a xs ∧ SqT K H b ys ∧ xs ≠ [] ∧ xs.length + ys.length ≤ sizeLine ∧ (ys = [] → Q (.ref a) H) ∧ (ys ≠ [] → NewT H (xs ++ ys) Q)
theorem op_catN : OpR X (binaryOp .Add) (rCatN X.K) := by
  intro pins s σ H x y v u Q I rx ry h
  obtain ⟨a, b, xs, ys, rfl, rfl, ha, hb, hx, hz, q1, q2⟩ := h
  cases rx
  cases ry
  obtain ⟨its, r1, p1, _⟩ := I.tuple ha
  obtain ⟨its2, r2, p2, _⟩ := I.tuple hb
  refine HT.cat_tup p1 p2 (fun z => hx (r1.nil_iff.mp z)) (fun z => ⟨.ref a, H, I, rfl, q1 (r2.nil_iff.mp z)⟩) (fun z => ?_) (by rw [← r1.length, ← r2.length]; exact hz)
  obtain ⟨J, hf⟩ := Inv.layT (s := s) (h' := s.heap) (tk := s.toks) I (r1.append r2) (by rw [List.length_append]; exact hz)
  exact ⟨.ref s.heap.objs.size, _, J, rfl, q2 (fun w => z (r2.nil_iff.mpr w)) _ _ hf rfl⟩
/-- tuple(x), x a list or a tuple -/
theorem call_tupleN : CallR X (.type "tuple") (fun xs H Q => ∃ p ys, xs = [.ref p] ∧ ((SqL X.K H p ys ∧ NewT H ys Q) ∨ (SqT X.K H p ys ∧ Q (.ref p) H))) := by
  intro pins s σ H xs us Q I r h
  obtain ⟨p, ys, rfl, h⟩ := h
  obtain ⟨u, rfl, rx⟩ := vals1 r
  cases rx
  rcases h with ⟨hq, q⟩ | ⟨hq, q⟩
  · obtain ⟨its, r', pl, hz⟩ := I.list hq
    have hlen := r'.length
    refine call_tuple_list pl.isList (fun h' kp => ?_) (by simp only [List.size_toArray] <;> omega)
    have I1 : Inv X pins σ H { s with heap := h' } := I.kept (t' := s.toks) kp
    obtain ⟨J, hf⟩ := Inv.layT (s := s) (h' := h') (tk := s.toks) I1 r' hz
    exact ⟨.ref h'.objs.size, _, J, rfl, q _ _ hf rfl⟩
  · obtain ⟨its, r', pl, hz⟩ := I.tuple hq
    exact call_tuple_same pl ⟨.ref p, H, I, rfl, q⟩
end
end L2
set_option Elab.async false
set_option linter.all false
set_option maxRecDepth 100000
set_option maxHeartbeats 2000000
namespace DL
open PySem PySem.Spec PyProof.Rows L2
def Rs.of {α : Type} : Option (α × Mm) → Rs α
  | some (a, m) => .ok a m
  | none => .stuck
@[simp] theorem Rs.of_some {α : Type} (a : α) (m : Mm) : Rs.of (some (a, m)) = .ok a m := rfl
@[simp] theorem Rs.of_none {α : Type} : Rs.of (none : Option (α × Mm)) = .stuck := rfl
/-- a value alone -/
def pureO {α : Type} (m : Mm) : Option α → Option (α × Mm)
  | some a => some (a, m)
  | none => none
@[simp] theorem pureO_some {α : Type} (m : Mm) (a : α) : pureO m (some a) = some (a, m) := rfl
@[simp] theorem pureO_none {α : Type} (m : Mm) : pureO m (none : Option α) = none := rfl
abbrev LIM : Nat := 16777216
theorem LIM_eq : LIM = sizeLine := sizeLine_eq.symm
theorem PEimp {X : Cx} {e : Expr} {t t' : TE} (h : PE X e t) (i : ∀ σ H Q, t' σ H Q → t σ H Q) : PE X e t' := ⟨fun pins s σ H Q I hw => h.run pins s σ H Q I (i σ H Q hw)⟩
theorem PTimp {X : Cx} {e : Expr} {t t' : TT} (h : PT X e t) (i : ∀ σ H Q, t' σ H Q → t σ H Q) : PT X e t' := ⟨fun pins s σ H Q I hw => h.run pins s σ H Q I (i σ H Q hw)⟩
theorem PWimp {X : Cx} {e : Expr} {t t' : TT} (h : PW X e t) (i : ∀ σ H Q, t' σ H Q → t σ H Q) : PW X e t' := ⟨fun wh pins s σ H Q I hw => h.run wh pins s σ H Q I (i σ H Q hw)⟩
theorem PAimp {X : Cx} {e : List Expr} {t t' : TA} (h : PA X e t) (i : ∀ σ H Q, t' σ H Q → t σ H Q) : PA X e t' := ⟨fun ps pins s σ H Q I hw => h.run ps pins s σ H Q I (i σ H Q hw)⟩
theorem PSimp {X : Cx} {e : Stmt} {t t' : TS} (h : PS X e t) (i : ∀ D σ H, t' D σ H → t D σ H) : PS X e t' := ⟨fun pins s σ H Q I hw => h.run pins s σ H Q I (i Q σ H hw)⟩
theorem PSsimp {X : Cx} {e : List Stmt} {t t' : TS} (h : PSs X e t) (i : ∀ D σ H, t' D σ H → t D σ H) : PSs X e t' := ⟨fun pins s σ H Q I hw => h.run pins s σ H Q I (i Q σ H hw)⟩
theorem OpRimp {X : Cx} {f : Value → Value → Sem Value} {r r' : R2} (h : OpR X f r) (i : ∀ x y H Q, r' x y H Q → r x y H Q) : OpR X f r' := fun pins s σ H x y v u Q I a b q => h pins s σ H x y v u Q I a b (i _ _ _ _ q)
theorem CallRimp {X : Cx} {f : Value} {r r' : List V → Hp → VK → Prop} (h : CallR X f r) (i : ∀ x H Q, r' x H Q → r x H Q) : CallR X f r' := fun pins s σ H x v Q I a q => h pins s σ H x v Q I a (i _ _ _ q)
theorem IxRimp {X : Cx} {r r' : R2} (h : IxR X r) (i : ∀ x y H Q, r' x y H Q → r x y H Q) : IxR X r' := fun va sl pins s σ H x y v u Q I a b q => h va sl pins s σ H x y v u Q I a b (i _ _ _ _ q)
section
variable {X : Cx} {W : L2.WX}
def eC (w : Wd) : Em Wd := fun _ m => .ok w m
def eV (i : Nat) : Em Wd := fun env m => match env[i]? with
  | some (some w) => .ok w m
  | _ => .stuck
def aN : Em (List Wd) := fun _ m => .ok [] m
def aC (f : Em Wd) (g : Em (List Wd)) : Em (List Wd) := fun env m => (f env m).bind fun w m => (g env m).bind fun ws m => .ok (w :: ws) m
abbrev Op1 := Wd → Mm → Option (Wd × Mm)
abbrev Op2 := Wd → Wd → Mm → Option (Wd × Mm)
abbrev OpN := List Wd → Mm → Option (Wd × Mm)
def e1 (g : Op1) (f : Em Wd) : Em Wd := fun env m => (f env m).bind fun a m => Rs.of (g a m)
def e2 (g : Op2) (fa fb : Em Wd) : Em Wd := fun env m => (fa env m).bind fun a m => (fb env m).bind fun b m => Rs.of (g a b m)
def eN (g : OpN) (f : Em (List Wd)) : Em Wd := fun env m => (f env m).bind fun ws m => Rs.of (g ws m)
/-- a def called -/
abbrev Fn := List Wd → Mm → Rs Wd
def eCall (n : Nat) (F : Fn) (f : Em (List Wd)) : Em Wd := fun env m => (f env m).bind fun ws m => if ws.length = n then F ws m else .stuck
def tupO : OpN := fun ws m => if ws.length ≤ LIM then some (mkTup ws, m) else none
def lstO : OpN := fun ws m => if ws.length ≤ LIM then some (.ref m.cells.length, m.push (.lst ws)) else none
/-- tests -/
def asB : Wd → Option Bool
  | .d (.bool b) => some b
  | _ => none
def truO (w : Wd) (m : Mm) : Option Bool := match w with
  | .d .none => some false
  | .d (.bool b) => some b
  | .d (.int i) => some (i != 0)
  | .d (.str x) => if x.length ≤ LIM then some ((x.length : Int) != 0) else none
  | .d (.tuple xs) => some (!xs.isEmpty)
  | .tup xs => some (!xs.isEmpty)
  | .rol xs => some (!xs.isEmpty)
  | .ref n => match m.cells[n]? with
    | some (.lst xs) => some (!xs.isEmpty)
    | some (.dct kvs) => some (!kvs.isEmpty)
    | _ => none
  | _ => none
def b2 (g : Op2) (fa fb : Em Wd) : Em Bool := fun env m => (e2 g fa fb env m).bind fun w m => match asB w with
  | some b => .ok b m
  | none => .stuck
def bV (f : Em Wd) : Em Bool := fun env m => (f env m).bind fun w m => match truO w m with
  | some b => .ok b m
  | none => .stuck
def bAnd (f g : Em Bool) : Em Bool := fun env m => (f env m).bind fun b m => if b = true then g env m else .ok false m
def bOr (f g : Em Bool) : Em Bool := fun env m => (f env m).bind fun b m => if b = true then .ok true m else g env m
def bNot (f : Em Bool) : Em Bool := fun env m => (f env m).bind fun b m => .ok (!b) m
def eIf (c : Em Bool) (f g : Em Wd) : Em Wd := fun env m => (c env m).bind fun b m => if b = true then f env m else g env m
def eAnd (f g : Em Wd) : Em Wd := fun env m => (f env m).bind fun w m => match truO w m with
  | some b => if b = true then g env m else .ok w m
  | none => .stuck
def eOr (f g : Em Wd) : Em Wd := fun env m => (f env m).bind fun w m => match truO w m with
  | some b => if b = true then .ok w m else g env m
  | none => .stuck
/-- a < b < c -/
def eCh (g g' : Op2) (fa fb fc : Em Wd) : Em Wd := fun env m => (fa env m).bind fun a m => (fb env m).bind fun b m => (Rs.of (g a b m)).bind fun z m => match asB z with
  | some k => if k = true then (fc env m).bind fun c m => Rs.of (g' b c m) else .ok (.d (.bool false)) m
  | none => .stuck
section
variable (K : Kw)
def rO (g : Op2) : R2 := fun x y H Q => ∃ ι m a b, MemOk K ι m H ∧ RelW K ι H a x ∧ RelW K ι H b y ∧ Post K W0 (RelW K) ι H [] Q (Rs.of (g a b m))
def rON (g : OpN) : List V → Hp → VK → Prop := fun xs H Q => ∃ ι m ws, MemOk K ι m H ∧ RelWs K ι H ws xs ∧ Post K W0 (RelW K) ι H [] Q (Rs.of (g ws m))
/-- a def's promise -/
def spD (n : Nat) (F : Fn) : Sp := fun vs H Q E => ∃ ι m ws, vs.length = n ∧ MemOk K ι m H ∧ RelWs K ι H ws vs ∧ Post K (fun cls d _ H' => E cls d H') (RelW K) ι H [] Q (F ws m)
end
theorem Post.w0 {K : Kw} {α β : Type} {rel : List Addr → Hp → α → β → Prop} {ι : List Addr} {H : Hp} {σ σ' : L2.St} {Q : β → Hp → Prop} {r : Option (α × Mm)} (h : Post K W rel ι H σ Q (Rs.of r)) : Post K W0 rel ι H σ' Q (Rs.of r) := by
  cases r with
  | none => exact h
  | some p => exact h
theorem post_ok {K : Kw} {α β : Type} {rel : List Addr → Hp → α → β → Prop} {ι : List Addr} {H : Hp} {σ : L2.St} {Q : β → Hp → Prop} {a : α} {b : β} {m : Mm} (h : Post K W rel ι H σ Q (.ok a m)) (mo : MemOk K ι m H) (r : rel ι H a b) : Q b H := h ι H b .refl mo r
theorem RelW.d' {K : Kw} {ι : List Addr} {H : Hp} {x : PyData} {v : V} (h : RelW K ι H (.d x) v) : RelD K H x v := by cases h with | d h => exact h
theorem relW_bl {K : Kw} {ι : List Addr} {H : Hp} {b : Bool} {v : V} (h : RelW K ι H (.d (.bool b)) v) : v = .bl b := by cases h.d'; rfl
theorem relW_int {K : Kw} {ι : List Addr} {H : Hp} {b : Int} {v : V} (h : RelW K ι H (.d (.int b)) v) : v = .int b := by cases h.d'; rfl
theorem relW_str {K : Kw} {ι : List Addr} {H : Hp} {b : Str} {v : V} (h : RelW K ι H (.d (.str b)) v) : v = .str b := by cases h.d'; rfl
theorem relW_non {K : Kw} {ι : List Addr} {H : Hp} {v : V} (h : RelW K ι H (.d .none) v) : v = .non := by cases h.d'; rfl
theorem relW_ref {K : Kw} {ι : List Addr} {H : Hp} {n : Nat} {v : V} (h : RelW K ι H (.ref n) v) : ∃ a, v = .ref a ∧ ι[n]? = some a := by cases h with | ref h => exact ⟨_, rfl, h⟩
theorem asB_ok {w : Wd} {b : Bool} (h : asB w = some b) : w = .d (.bool b) := by
  unfold asB at h
  split at h
  · cases h; rfl
  · cases h
theorem truO_ok {K : Kw} {ι : List Addr} {H : Hp} {m : Mm} {w : Wd} {v : V} {b : Bool} (mo : MemOk K ι m H) (r : RelW K ι H w v) (h : truO w m = some b) : TruV K v H b := by
  cases r with
  | d r =>
    cases r with
    | non => cases h; rfl
    | bl _ => cases h; rfl
    | int _ => cases h; rfl
    | str x =>
      simp only [truO] at h
      split at h
      · cases h; exact ⟨by rw [← LIM_eq]; assumption, rfl⟩
      · cases h
    | tup q qs =>
      cases h
      refine .inr (.inl ⟨_, q.1, ?_⟩)
      cases qs <;> rfl
  | tup q qs =>
    cases h
    refine .inr (.inl ⟨_, q.1, ?_⟩)
    cases qs <;> rfl
  | rol q qs =>
    cases h
    refine .inl ⟨_, q.sqL, ?_⟩
    cases qs <;> rfl
  | ref e =>
    simp only [truO] at h
    split at h
    · rename_i xs hc
      cases h
      obtain ⟨vs, e1, rs⟩ := mo.cell _ _ _ e hc
      refine .inl ⟨vs, SqL.of e1, ?_⟩
      cases rs <;> rfl
    · rename_i kvs hc
      cases h
      obtain ⟨vs, e1, rs⟩ := mo.cell _ _ _ e hc
      refine .inr (.inr ⟨vs, e1, ?_⟩)
      cases kvs <;> cases vs <;> first | rfl | exact rs.elim
    · cases h
  | v x => cases h
theorem de_C {e : Expr} {v : V} {w : Wd} (h : PE X e (tC v)) (r : ∀ ι H, RelW X.KW ι H w v) : PE X e (tE X.KW W (eC w)) :=
  PEimp h fun σ H Q ⟨ι, env, m, eo, mo, p⟩ => post_ok p mo (r _ _)
theorem de_int {i : Int} {j pos} : PE X (.Constant (.int i) j pos) (tE X.KW W (eC (.d (.int i)))) := de_C pe_int fun _ _ => .d (.int i)
theorem de_bool {i : Bool} {j pos} : PE X (.Constant (.bool i) j pos) (tE X.KW W (eC (.d (.bool i)))) := de_C pe_bl fun _ _ => .d (.bl i)
theorem de_str {i : Str} {j pos} : PE X (.Constant (.str i) j pos) (tE X.KW W (eC (.d (.str i)))) := de_C pe_str fun _ _ => .d (.str i)
theorem de_none {j pos} : PE X (.Constant .none j pos) (tE X.KW W (eC (.d .none))) := de_C pe_non fun _ _ => .d .non
theorem de_V {e : Expr} {i : Nat} (h : PE X e (tVar i)) : PE X e (tE X.KW W (eV i)) :=
  PEimp h fun σ H Q ⟨ι, env, m, eo, mo, p⟩ => by
    unfold eV at p
    cases q : env[i]? with
    | none => rw [q] at p; exact p.elim
    | some o =>
      cases o with
      | none => rw [q] at p; exact p.elim
      | some w =>
        rw [q] at p
        obtain ⟨v, e1, r⟩ := eo.2 i w q
        exact ⟨v, e1, post_ok p mo r⟩
/-- a module's constant -/
theorem de_G {x : Str} {u : Value} {v : V} {w : Wd} {pos : Pos} (hg : Gl X x) (hm : X.mg x = some u) (rv : RelV v u) (r : ∀ ι H, RelW X.KW ι H w v) (hd : (x == ("__debug__" : Str)) = false := by decide) : PE X (.Name x pos) (tE X.KW W (eC w)) :=
  de_C (pe_glob hg hm rv hd) r
theorem da_nil : PA X [] (tA X.KW W aN) := PAimp pa_nil fun σ H Q ⟨ι, env, m, eo, mo, p⟩ => post_ok p mo .nil
theorem da_cons {e : Expr} {es : List Expr} {f : Em Wd} {g : Em (List Wd)} (ha : PE X e (tE X.KW W f)) (hb : PA X es (tA X.KW W g)) (hs : starEach (e :: es) X.env = (false, eval e X.env) :: starEach es X.env := by rfl) : PA X (e :: es) (tA X.KW W (aC f g)) :=
  PAimp (pa_cons ha hb hs) fun σ H Q ⟨ι, env, m, eo, mo, p⟩ => Post.bind eo mo p fun ι1 H1 a x m1 st1 mo1 eo1 ra p1 => Post.bind eo1 mo1 p1 fun ι2 H2 b y m2 st2 mo2 eo2 rb p2 => post_ok p2 mo2 (.cons (ra.step mo1.apart st2) rb)
theorem post_e2 {K : Kw} {g : Op2} {fa fb : Em Wd} {ι : List Addr} {env : Env} {m : Mm} {H : Hp} {σ : L2.St} {Q : VK} (eo : EnvOk K ι H env σ) (mo : MemOk K ι m H) (p : Post K W (RelW K) ι H σ Q (e2 g fa fb env m)) : tE K W fa σ H fun x H1 => tE K W fb σ H1 fun y H2 => rO K g x y H2 Q :=
  Post.bind eo mo p fun ι1 H1 a x m1 st1 mo1 eo1 ra p1 => Post.bind eo1 mo1 p1 fun ι2 H2 b y m2 st2 mo2 eo2 rb p2 => ⟨ι2, m2, a, b, mo2, ra.step mo1.apart st2, rb, p2.w0⟩
theorem de_bin {a b : Expr} {op : Operator} {g : Op2} {fa fb : Em Wd} {pos : Pos} (ho : OpR X (binaryOp op) (rO X.KW g)) (ha : PE X a (tE X.KW W fa)) (hb : PE X b (tE X.KW W fb)) : PE X (.BinOp a op b pos) (tE X.KW W (e2 g fa fb)) :=
  PEimp (pe_op ho ha hb) fun σ H Q ⟨ι, env, m, eo, mo, p⟩ => post_e2 eo mo p
theorem de_cmp {a b : Expr} {op : CmpOp} {g : Op2} {fa fb : Em Wd} {pos : Pos} (ho : OpR X (compareOp op) (rO X.KW g)) (ha : PE X a (tE X.KW W fa)) (hb : PE X b (tE X.KW W fb)) (hm : behindInMarks op b = false) : PE X (.Compare a [op] [b] pos) (tE X.KW W (e2 g fa fb)) :=
  PEimp (pe_cmpR ho ha hb hm) fun σ H Q ⟨ι, env, m, eo, mo, p⟩ => post_e2 eo mo p
theorem dt_cmp {a b : Expr} {op : CmpOp} {g : Op2} {fa fb : Em Wd} {pos : Pos} (ho : OpR X (compareOp op) (rO X.KW g)) (ha : PE X a (tE X.KW W fa)) (hb : PE X b (tE X.KW W fb)) (hm : behindInMarks op b = false) : PT X (.Compare a [op] [b] pos) (tT X.KW W (b2 g fa fb)) := by
  refine PTimp (pt_cmpR ho ha hb hm) fun σ H Q ⟨ι, env, m, eo, mo, p⟩ => ?_
  refine post_e2 (Q := fun x H' => ∃ k, x = .bl k ∧ Q k H') eo mo ?_
  unfold b2 at p
  cases q : e2 g fa fb env m with
  | stuck => rw [q] at p; exact p
  | exc x m1 => rw [q] at p; exact p
  | ok w m1 =>
    rw [q] at p
    simp only [Rs.bind_ok] at p
    cases q2 : asB w with
    | none => rw [q2] at p; exact p.elim
    | some b =>
      rw [q2] at p
      have := asB_ok q2
      subst this
      exact fun ι' H' v st mo' r => ⟨b, relW_bl r, p ι' H' b st mo' rfl⟩
theorem post_eCh {K : Kw} {g g' : Op2} {fa fb fc : Em Wd} {ι : List Addr} {env : Env} {m : Mm} {H : Hp} {σ : L2.St} {Q : VK} (eo : EnvOk K ι H env σ) (mo : MemOk K ι m H) (p : Post K W (RelW K) ι H σ Q (eCh g g' fa fb fc env m)) :
    tChain (rO K g) (rO K g') (tE K W fa) (tE K W fb) (tE K W fc) σ H Q :=
  Post.bind eo mo p fun ι1 H1 a x m1 st1 mo1 eo1 ra p1 => Post.bind eo1 mo1 p1 fun ι2 H2 b y m2 st2 mo2 eo2 rb p2 => ⟨ι2, m2, a, b, mo2, ra.step mo1.apart st2, rb, by
    cases q : g a b m2 with
    | none => rw [q] at p2; exact p2
    | some z =>
      obtain ⟨z, m3⟩ := z
      rw [q] at p2
      simp only [Rs.of_some, Rs.bind_ok] at p2
      intro ι3 H3 v st3 mo3 rz
      cases q2 : asB z with
      | none => rw [q2] at p2; exact p2.elim
      | some k =>
        rw [q2] at p2
        have e := asB_ok q2
        subst e
        refine ⟨k, relW_bl rz, ?_⟩
        cases k with
        | false => exact p2 ι3 H3 _ st3 mo3 (.d (.bl false))
        | true =>
          simp only [if_true] at p2 ⊢
          exact Post.bind (eo2.step mo2.apart st3) mo3 (p2.step st3) fun ι4 H4 c zz m4 st4 mo4 eo4 rc p4 => ⟨ι4, m4, b, c, mo4, (rb.step mo2.apart st3).step mo3.apart st4, rc, p4.w0⟩⟩
def bCh (g g' : Op2) (fa fb fc : Em Wd) : Em Bool := fun env m => (eCh g g' fa fb fc env m).bind fun w m => match asB w with
  | some b => .ok b m
  | none => .stuck
theorem dt_chain {a b c : Expr} {op op' : CmpOp} {g g' : Op2} {fa fb fc : Em Wd} {pos : Pos} (ho : OpR X (compareOp op) (rO X.KW g)) (ho' : OpR X (compareOp op') (rO X.KW g')) (ha : PE X a (tE X.KW W fa)) (hb : PE X b (tE X.KW W fb)) (hc : PE X c (tE X.KW W fc))
    (hm : lastMarks [op, op'] [b, c] = false := by with_unfolding_all rfl) : PT X (.Compare a [op, op'] [b, c] pos) (tT X.KW W (bCh g g' fa fb fc)) := by
  refine PTimp (pt_chain ho ho' ha hb hc hm) fun σ H Q ⟨ι, env, m, eo, mo, p⟩ => ?_
  refine post_eCh (Q := fun x H' => ∃ k, x = .bl k ∧ Q k H') eo mo ?_
  unfold bCh at p
  cases q : eCh g g' fa fb fc env m with
  | stuck => rw [q] at p; exact p
  | exc x m1 => rw [q] at p; exact p
  | ok w m1 =>
    rw [q] at p
    simp only [Rs.bind_ok] at p
    cases q2 : asB w with
    | none => rw [q2] at p; exact p.elim
    | some b =>
      rw [q2] at p
      have := asB_ok q2
      subst this
      exact fun ι' H' v st mo' r => ⟨b, relW_bl r, p ι' H' b st mo' rfl⟩
/-- tests -/
theorem dt_val {e : Expr} {f : Em Wd} (h : PE X e (tE X.KW W f)) (he : ∀ whole, isTrue e X.env whole = (do let v ← whole; standAt e.pos; holding [v] (truthy v)) := by intro _; rfl) : PT X e (tT X.KW W (bV f)) :=
  PTimp (pt_truth h he) fun σ H Q ⟨ι, env, m, eo, mo, p⟩ => Post.bind eo mo p fun ι1 H1 a x m1 st1 mo1 eo1 ra p1 => by
    cases q : truO a m1 with
    | none => simp only [q] at p1; exact p1.elim
    | some b => simp only [q] at p1; exact ⟨b, truO_ok mo1 ra q, post_ok p1 mo1 rfl⟩
theorem tB_and {K : Kw} {f g : Em Bool} {σ : L2.St} {H : Hp} {Q : Bool → Hp → Prop} (h : tT K W (bAnd f g) σ H Q) : tAnd (tT K W f) (tT K W g) σ H Q := by
  obtain ⟨ι, env, m, eo, mo, p⟩ := h
  refine Post.bind eo mo p fun ι1 H1 a x m1 st1 mo1 eo1 ra p1 => ?_
  subst ra
  cases a with
  | true => exact ⟨ι1, env, m1, eo1, mo1, p1⟩
  | false => exact post_ok p1 mo1 rfl
theorem tB_or {K : Kw} {f g : Em Bool} {σ : L2.St} {H : Hp} {Q : Bool → Hp → Prop} (h : tT K W (bOr f g) σ H Q) : tOr (tT K W f) (tT K W g) σ H Q := by
  obtain ⟨ι, env, m, eo, mo, p⟩ := h
  refine Post.bind eo mo p fun ι1 H1 a x m1 st1 mo1 eo1 ra p1 => ?_
  subst ra
  cases a with
  | true => exact post_ok p1 mo1 rfl
  | false => exact ⟨ι1, env, m1, eo1, mo1, p1⟩
theorem dw_and1 {a : Expr} {pos : Pos} {f : Em Bool} (h : PT X a (tT X.KW W f)) : PW X (.BoolOp .And [a] pos) (tT X.KW W f) := pw_and1 h
theorem dw_or1 {a : Expr} {pos : Pos} {f : Em Bool} (h : PT X a (tT X.KW W f)) : PW X (.BoolOp .Or [a] pos) (tT X.KW W f) := pw_or1 h
theorem dw_and {a b : Expr} {rest : List Expr} {pos : Pos} {f g : Em Bool} (h : PT X a (tT X.KW W f)) (h2 : PW X (.BoolOp .And (b :: rest) pos) (tT X.KW W g)) : PW X (.BoolOp .And (a :: b :: rest) pos) (tT X.KW W (bAnd f g)) := PWimp (pw_and h h2) fun _ _ _ => tB_and
theorem dw_or {a b : Expr} {rest : List Expr} {pos : Pos} {f g : Em Bool} (h : PT X a (tT X.KW W f)) (h2 : PW X (.BoolOp .Or (b :: rest) pos) (tT X.KW W g)) : PW X (.BoolOp .Or (a :: b :: rest) pos) (tT X.KW W (bOr f g)) := PWimp (pw_or h h2) fun _ _ _ => tB_or
theorem dt_not {a : Expr} {pos : Pos} {f : Em Bool} (h : PT X a (tT X.KW W f)) : PT X (.UnaryOp .Not a pos) (tT X.KW W (bNot f)) :=
  PTimp (pt_not h) fun σ H Q ⟨ι, env, m, eo, mo, p⟩ => Post.bind eo mo p fun ι1 H1 a x m1 st1 mo1 eo1 ra p1 => post_ok p1 mo1 (by rw [ra])
theorem de_if {a b c : Expr} {pos : Pos} {ft : Em Bool} {fa fb : Em Wd} (hc : PT X c (tT X.KW W ft)) (ha : PE X a (tE X.KW W fa)) (hb : PE X b (tE X.KW W fb)) : PE X (.IfExp c a b pos) (tE X.KW W (eIf ft fa fb)) :=
  PEimp (pe_ifExp hc ha hb) fun σ H Q ⟨ι, env, m, eo, mo, p⟩ => Post.bind eo mo p fun ι1 H1 a x m1 st1 mo1 eo1 ra p1 => by
    subst ra
    cases a with
    | true => exact ⟨ι1, env, m1, eo1, mo1, p1⟩
    | false => exact ⟨ι1, env, m1, eo1, mo1, p1⟩
theorem de_one {a : Expr} {op : BoolOp} {pos : Pos} {f : Em Wd} (h : PE X a (tE X.KW W f)) : PE X (.BoolOp op [a] pos) (tE X.KW W f) := pe_one h
theorem de_and {a b : Expr} {rest : List Expr} {pos : Pos} {f g : Em Wd} (h : PE X a (tE X.KW W f)) (h2 : PE X (.BoolOp .And (b :: rest) pos) (tE X.KW W g)) : PE X (.BoolOp .And (a :: b :: rest) pos) (tE X.KW W (eAnd f g)) :=
  PEimp (pe_andT h h2) fun σ H Q ⟨ι, env, m, eo, mo, p⟩ => Post.bind eo mo p fun ι1 H1 a x m1 st1 mo1 eo1 ra p1 => by
    cases q : truO a m1 with
    | none => simp only [q] at p1; exact p1.elim
    | some b =>
      simp only [q] at p1
      refine ⟨b, truO_ok mo1 ra q, ?_⟩
      cases b with
      | true => exact ⟨ι1, env, m1, eo1, mo1, p1⟩
      | false => exact post_ok p1 mo1 ra
theorem de_or {a b : Expr} {rest : List Expr} {pos : Pos} {f g : Em Wd} (h : PE X a (tE X.KW W f)) (h2 : PE X (.BoolOp .Or (b :: rest) pos) (tE X.KW W g)) : PE X (.BoolOp .Or (a :: b :: rest) pos) (tE X.KW W (eOr f g)) :=
  PEimp (pe_orT h h2) fun σ H Q ⟨ι, env, m, eo, mo, p⟩ => Post.bind eo mo p fun ι1 H1 a x m1 st1 mo1 eo1 ra p1 => by
    cases q : truO a m1 with
    | none => simp only [q] at p1; exact p1.elim
    | some b =>
      simp only [q] at p1
      refine ⟨b, truO_ok mo1 ra q, ?_⟩
      cases b with
      | false => exact ⟨ι1, env, m1, eo1, mo1, p1⟩
      | true => exact post_ok p1 mo1 ra
/-- displays -/
theorem de_tup {es : List Expr} {x1 pos} {f : Em (List Wd)} (h : PA X es (tA X.KW W f)) : PE X (.Tuple es x1 pos) (tE X.KW W (eN tupO f)) :=
  PEimp (pe_tupN h) fun σ H Q ⟨ι, env, m, eo, mo, p⟩ => Post.bind eo mo p fun ι1 H1 ws xs m1 st1 mo1 eo1 ra p1 => by
    unfold tupO at p1
    by_cases hl : ws.length ≤ LIM
    · rw [if_pos hl] at p1
      have hl' : xs.length ≤ sizeLine := by rw [← ra.length, ← LIM_eq]; exact hl
      exact ⟨hl', fun q o hq ho => p1 ι1 _ _ (stp_tup hq) (mo1.tup hq) (mkTup_ok (SqP.new ho) (ra.step mo1.apart (stp_tup hq)))⟩
    · rw [if_neg hl] at p1; exact p1.elim
theorem cell_new {K : Kw} {ι : List Addr} {H : Hp} {m : Mm} {q : Addr} {ws : List Wd} {xs : List V} (mo : MemOk K ι m H) (hq : H q = none) (ra : RelWs K ι H ws xs) : MemOk K (ι ++ [q]) (m.push (.lst ws)) (upd H q (.lst xs)) ∧ RelW K (ι ++ [q]) (upd H q (.lst xs)) (.ref m.cells.length) (.ref q) :=
  ⟨mo.push hq ⟨xs, upd_same, ra.step mo.apart (stp_new hq)⟩, .ref (by rw [← mo.len]; simp)⟩
theorem de_lst {es : List Expr} {pos} {f : Em (List Wd)} (h : PA X es (tA X.KW W f)) : PE X (.List es pos) (tE X.KW W (eN lstO f)) :=
  PEimp (pe_lst h) fun σ H Q ⟨ι, env, m, eo, mo, p⟩ => Post.bind eo mo p fun ι1 H1 ws xs m1 st1 mo1 eo1 ra p1 => by
    unfold lstO at p1
    by_cases hl : ws.length ≤ LIM
    · rw [if_pos hl] at p1
      have hl' : xs.length ≤ sizeLine := by rw [← ra.length, ← LIM_eq]; exact hl
      exact ⟨hl', fun q hq => let ⟨a, b⟩ := cell_new mo1 hq ra; p1 _ _ _ (stp_new hq) a b⟩
    · rw [if_neg hl] at p1; exact p1.elim
/-- calls -/
theorem de_call {k n : Nat} {f : Addr} {fd : FuncData} {ps : List Str} {F : Fn} {x : Str} {p pos : Pos} {e : Expr} {es : List Expr} {fa : Em (List Wd)} (tk : Takes X W) (G : FnOk X.prog X.w X.KW X.mg X.base (L2.CX X.prog X.w) k f fd ps (spD X.KW n F)) (hr : Room k X.A) (hg : Gl X x) (hm : X.mg x = some (.ref f)) (hk : PySem.W.keepIn X.KW (.ref f) = true) (hb : Binds X.KW fd ps [])
    (ha : PA X (e :: es) (tA X.KW W fa)) (hdb : (x == ("__debug__" : Str)) = false := by decide) (he : starEach (e :: es) X.env = (false, eval e X.env) :: starEach es X.env := by rfl) (hpl : (backTo pos (starEach es X.env)).any (·.1) = false := by rfl) :
    PE X (.Call (.Name x p) (e :: es) [] pos) (tE X.KW W (eCall n F fa)) :=
  PEimp (pe_callS (E := WE W) G hr hg hm hk hb (fun σ => passAt tk σ) ha hdb he hpl) fun σ H Q ⟨ι, env, m, eo, mo, p⟩ => Post.bind eo mo p fun ι1 H1 ws xs m1 st1 mo1 eo1 ra p1 => by
    by_cases hl : ws.length = n
    · rw [if_pos hl] at p1
      refine ⟨ι1, m1, ws, by rw [← ra.length]; exact hl, mo1, ra, ?_⟩
      cases q : F ws m1 with
      | ok a m2 => rw [q] at p1; exact p1
      | exc x m2 => rw [q] at p1; exact p1
      | stuck => rw [q] at p1; exact p1
    · rw [if_neg hl] at p1; exact p1.elim
theorem de_callB {id : String} {g : OpN} {x : Str} {p pos : Pos} {e : Expr} {es : List Expr} {fa : Em (List Wd)} (hc : CallR X (.builtin id) (rON X.KW g)) (hg : Gl X x) (hm : X.mg x = none) (hv : bootBuiltins x = some (.builtin id)) (ha : PA X (e :: es) (tA X.KW W fa)) (hn : x ≠ "__name__" := by decide) (hdb : (x == ("__debug__" : Str)) = false := by decide)
    (he : starEach (e :: es) X.env = (false, eval e X.env) :: starEach es X.env := by rfl) (hpl : (backTo pos (starEach es X.env)).any (·.1) = false := by rfl) : PE X (.Call (.Name x p) (e :: es) [] pos) (tE X.KW W (eN g fa)) :=
  PEimp (pe_callB hc hg hm hv ha hn hdb he hpl) fun σ H Q ⟨ι, env, m, eo, mo, p⟩ => Post.bind eo mo p fun ι1 H1 ws xs m1 st1 mo1 eo1 ra p1 => ⟨ι1, m1, ws, mo1, ra, p1.w0⟩
theorem de_callT {T : String} {g : OpN} {x : Str} {p pos : Pos} {e : Expr} {es : List Expr} {fa : Em (List Wd)} (hc : CallR X (.type T) (rON X.KW g)) (hg : Gl X x) (hm : X.mg x = none) (hv : bootBuiltins x = some (.type T)) (ha : PA X (e :: es) (tA X.KW W fa)) (hn : x ≠ "__name__" := by decide) (hdb : (x == ("__debug__" : Str)) = false := by decide)
    (he : starEach (e :: es) X.env = (false, eval e X.env) :: starEach es X.env := by rfl) (hpl : (backTo pos (starEach es X.env)).any (·.1) = false := by rfl) : PE X (.Call (.Name x p) (e :: es) [] pos) (tE X.KW W (eN g fa)) :=
  PEimp (pe_callTy hc hg hm hv ha hn hdb he hpl) fun σ H Q ⟨ι, env, m, eo, mo, p⟩ => Post.bind eo mo p fun ι1 H1 ws xs m1 st1 mo1 eo1 ra p1 => ⟨ι1, m1, ws, mo1, ra, p1.w0⟩
/-- an item -/
theorem de_ix {a b : Expr} {g : Op2} {fa fb : Em Wd} {pos : Pos} (hr : IxR X (rO X.KW g)) (ha : PE X a (tE X.KW W fa)) (hb : PE X b (tE X.KW W fb)) (hs : PlainIx b) : PE X (.Subscript a b pos) (tE X.KW W (e2 g fa fb)) :=
  PEimp (pe_ix hr ha hb hs) fun σ H Q ⟨ι, env, m, eo, mo, p⟩ => post_e2 eo mo p
end
end DL
set_option Elab.async false
set_option linter.all false
set_option maxRecDepth 100000
set_option maxHeartbeats 2000000
namespace DL
open PySem PySem.Spec PyProof.Rows L2
def rs {α : Type} (r : Rs α) (env : Env) (k : α → Mm → Sr) : Sr := match r with
  | .ok a m => k a m
  | .exc x m => .exc x env m
  | .stuck => .stuck
@[simp] theorem rs_ok {α : Type} (a : α) (m : Mm) (env : Env) (k : α → Mm → Sr) : rs (.ok a m) env k = k a m := rfl
@[simp] theorem rs_exc {α : Type} (x : Ex) (m : Mm) (env : Env) (k : α → Mm → Sr) : rs (.exc x m) env k = .exc x env m := rfl
@[simp] theorem rs_stuck {α : Type} (env : Env) (k : α → Mm → Sr) : rs (.stuck : Rs α) env k = .stuck := rfl
def Sr.seq (r : Sr) (g : Sm) : Sr := match r with
  | .go .nx e m => g e m
  | r => r
@[simp] theorem seq_nx (e : Env) (m : Mm) (g : Sm) : (Sr.go .nx e m).seq g = g e m := rfl
@[simp] theorem seq_rt (w : Wd) (e : Env) (m : Mm) (g : Sm) : (Sr.go (.rt w) e m).seq g = .go (.rt w) e m := rfl
@[simp] theorem seq_bk (e : Env) (m : Mm) (g : Sm) : (Sr.go .bk e m).seq g = .go .bk e m := rfl
@[simp] theorem seq_ct (e : Env) (m : Mm) (g : Sm) : (Sr.go .ct e m).seq g = .go .ct e m := rfl
@[simp] theorem seq_exc (x : Ex) (e : Env) (m : Mm) (g : Sm) : (Sr.exc x e m).seq g = .exc x e m := rfl
@[simp] theorem seq_stuck (g : Sm) : Sr.stuck.seq g = .stuck := rfl
def sSeq (f g : Sm) : Sm := fun env m => (f env m).seq g
def sNop : Sm := fun env m => .go .nx env m
def sDrop (f : Em Wd) : Sm := fun env m => rs (f env m) env fun _ m => .go .nx env m
def sRet (f : Em Wd) : Sm := fun env m => rs (f env m) env fun w m => .go (.rt w) env m
def sRetN : Sm := fun env m => .go (.rt (.d .none)) env m
def sBk : Sm := fun env m => .go .bk env m
def sCt : Sm := fun env m => .go .ct env m
def sIf (c : Em Bool) (f g : Sm) : Sm := fun env m => rs (c env m) env fun b m => if b = true then f env m else g env m
def sSet (i : Nat) (f : Em Wd) : Sm := fun env m => rs (f env m) env fun w m => .go .nx (env.set i (some w)) m
/-- targets: names, tuples of targets -/
inductive Tg where
  | name (i : Nat) | tup (ts : List Tg)
mutual
def Tg.put : Tg → Wd → Env → Option Env
  | .name i, w, env => some (env.set i (some w))
  | .tup ts, w, env => (tupOf w).bind fun ws => Tg.putAll ts ws env
def Tg.putAll : List Tg → List Wd → Env → Option Env
  | [], [], env => some env
  | t :: ts, w :: ws, env => (Tg.put t w env).bind fun env => Tg.putAll ts ws env
  | _, _, _ => none
end
mutual
def Tg.slots : Tg → List Nat
  | .name i => [i]
  | .tup ts => Tg.slotsAll ts
def Tg.slotsAll : List Tg → List Nat
  | [] => []
  | t :: ts => Tg.slots t ++ Tg.slotsAll ts
end
def sAsg (t : Tg) (f : Em Wd) : Sm := fun env m => rs (f env m) env fun w m => match t.put w env with
  | some env => .go .nx env m
  | none => .stuck
/-- slots that are not looked at any more -/
def forget : List Nat → Env → Env
  | [], env => env
  | i :: r, env => (forget r env).set i none
def envLt (k : Nat) : Env → Bool
  | [] => true
  | none :: r => envLt k r
  | some w :: r => w.lt k && envLt k r
/-- a scope of its own -/
def Sr.close (n0 : Nat) : Sr → Sr
  | .go .nx e m => .go .nx e (m.closeS n0 (envLt n0 e))
  | .go .bk e m => .go .bk e (m.closeS n0 (envLt n0 e))
  | .go .ct e m => .go .ct e (m.closeS n0 (envLt n0 e))
  | .go (.rt w) e m => .go (.rt w) e (m.closeS n0 (w.lt n0))
  | .exc x e m => .exc x e (m.closeS n0 false)
  | .stuck => .stuck
/-- a body, entered -/
def startE (n : Nat) (ws : List Wd) : Env := ws.map some ++ List.replicate (n - ws.length) none
def runF (n : Nat) (b : Sm) : Fn := fun ws m => match b (startE n ws) m.openS with
  | .go .nx _ m' => .ok (.d .none) (m'.closeS m.cells.length true)
  | .go (.rt w) _ m' => .ok w (m'.closeS m.cells.length (w.lt m.cells.length))
  | .exc x _ m' => .exc x (m'.closeS m.cells.length (Wd.ltAll m.cells.length (x.fs.map (·.2))))
  | _ => .stuck
section
variable {K : Kw} {W : L2.WX} {ι ι' : List Addr} {H H' : Hp} {env : Env} {σ : L2.St} {m : Mm}
theorem EnvOk.set {i : Nat} {w : Wd} {v : V} (h : EnvOk K ι H env σ) (r : RelW K ι H w v) : EnvOk K ι H (env.set i (some w)) (σ.set i (some v)) := by
  refine ⟨by simp [h.1], fun j u e => ?_⟩
  by_cases hj : j = i
  · subst hj
    have hl : j < env.length := by have := get_of e; rwa [List.length_set] at this
    rw [List.getElem?_set_self hl] at e
    cases e
    exact ⟨v, by rw [List.getElem?_set_self (by rw [← h.1]; exact hl)], r⟩
  · rw [List.getElem?_set_ne (Ne.symm hj)] at e
    obtain ⟨x, e1, r1⟩ := h.2 j u e
    exact ⟨x, by rw [List.getElem?_set_ne (Ne.symm hj)]; exact e1, r1⟩
theorem EnvOk.unset {i : Nat} (h : EnvOk K ι H env σ) : EnvOk K ι H (env.set i none) σ := by
  refine ⟨by simp [h.1], fun j u e => ?_⟩
  by_cases hj : j = i
  · subst hj
    have hl : j < env.length := by have := get_of e; rwa [List.length_set] at this
    rw [List.getElem?_set_self hl] at e
    cases e
  · rw [List.getElem?_set_ne (Ne.symm hj)] at e
    exact h.2 j u e
theorem EnvOk.forget (h : EnvOk K ι H env σ) : ∀ is : List Nat, EnvOk K ι H (forget is env) σ
  | [] => h
  | i :: r => (EnvOk.forget h r).unset
theorem EnvOk.take {b : Nat} : ∀ {env : Env} {σ : L2.St}, EnvOk K ι H env σ → envLt b env = true → EnvOk K (ι.take b) H env σ := by
  intro env σ h e
  refine ⟨h.1, fun i w q => ?_⟩
  obtain ⟨v, e1, r⟩ := h.2 i w q
  refine ⟨v, e1, r.take ?_⟩
  clear h e1 r
  induction env generalizing i with
  | nil => simp at q
  | cons o t ih =>
    cases i with
    | zero =>
      simp at q; subst q
      have e' : (w.lt b && envLt b t) = true := e
      exact (Bool.and_eq_true_iff.mp e').1
    | succ i =>
      refine ih ?_ i (by simpa using q)
      cases o with
      | none => exact e
      | some w' =>
        have e' : (w'.lt b && envLt b t) = true := e
        exact (Bool.and_eq_true_iff.mp e').2
/-- where less is known of the cells -/
theorem Stp.take {ι0 : List Addr} {H0 : Hp} {b : Nat} (st : Stp ι0 H0 ι H) (hb : ι0.length ≤ b) : Stp ι0 H0 (ι.take b) H where
  pre := by
    obtain ⟨t, e⟩ := st.pre
    refine ⟨t.take (b - ι0.length), ?_⟩
    rw [← e, List.take_append, List.take_of_length_le hb]
  new := fun a ha n => st.new a (List.mem_of_mem_take ha) n
  fix := st.fix
variable {X : Cx}
theorem ds_seq {st : Stmt} {rest : List Stmt} {f g : Sm} (h1 : PS X st (tS X.KW W f)) (h2 : PSs X rest (tS X.KW W g)) : PSs X (st :: rest) (tS X.KW W (sSeq f g)) :=
  PSsimp (pss_cons h1 h2) fun D σ H ⟨ι, env, m, eo, mo, p⟩ => by
    refine ⟨ι, env, m, eo, mo, ?_⟩
    have p' : PostS X.KW W D ι H ((f env m).seq g) := p
    cases q : f env m with
    | stuck => rw [q] at p'; exact p'
    | exc x e m1 => rw [q] at p'; exact p'
    | go fl e m1 =>
      rw [q] at p'
      cases fl with
      | nx => exact fun ι1 H1 σ1 st1 mo1 eo1 => ⟨ι1, e, m1, eo1, mo1, PostS.step st1 p'⟩
      | rt w => exact p'
      | bk => exact p'
      | ct => exact p'
theorem ds_nil : PSs X [] (tS X.KW W sNop) := PSsimp pss_nil fun D σ H ⟨ι, env, m, eo, mo, p⟩ => p ι H σ .refl mo eo
theorem ds_one {st : Stmt} {f : Sm} (h : PS X st (tS X.KW W f)) : PSs X [st] (tS X.KW W f) := pss_one h
theorem ds_expr {e : Expr} {pos : Pos} {f : Em Wd} (h : PE X e (tE X.KW W f)) (hs : swapsWith e none pos.line X.env = pure false := by rfl) : PS X (.Expr e pos) (tS X.KW W (sDrop f)) :=
  PSimp (ps_expr h hs) fun D σ H ⟨ι, env, m, eo, mo, p⟩ => PostS.bind eo mo p fun ι1 H1 a x m1 st1 mo1 eo1 ra p1 => p1 ι1 H1 σ .refl mo1 eo1
theorem ds_ret {e : Expr} {pos : Pos} {f : Em Wd} (h : PE X e (tE X.KW W f)) : PS X (.Return (some e) pos) (tS X.KW W (sRet f)) :=
  PSimp (ps_ret h) fun D σ H ⟨ι, env, m, eo, mo, p⟩ => PostS.bind eo mo p fun ι1 H1 a x m1 st1 mo1 eo1 ra p1 => p1 ι1 H1 x .refl mo1 ra
theorem ds_if {c : Expr} {a b : List Stmt} {pos : Pos} {fc : Em Bool} {f g : Sm} (hc : PT X c (tT X.KW W fc)) (ha : PSs X a (tS X.KW W f)) (hb : PSs X b (tS X.KW W g)) : PS X (.If c a b pos) (tS X.KW W (sIf fc f g)) :=
  PSimp (ps_if hc ha hb) fun D σ H ⟨ι, env, m, eo, mo, p⟩ => PostS.bind eo mo p fun ι1 H1 a x m1 st1 mo1 eo1 ra p1 => by
    subst ra
    cases a with
    | true => exact ⟨ι1, env, m1, eo1, mo1, p1⟩
    | false => exact ⟨ι1, env, m1, eo1, mo1, p1⟩
theorem ds_set {i : Nat} {e : Expr} {x : Str} {pos pos' : Pos} {f : Em Wd} (h : PS X (.Assign [.Name x pos'] e pos) (tAsg (tE X.KW W f) (gName i))) : PS X (.Assign [.Name x pos'] e pos) (tS X.KW W (sSet i f)) :=
  PSimp h fun D σ H ⟨ι, env, m, eo, mo, p⟩ => PostS.bind eo mo p fun ι1 H1 a x m1 st1 mo1 eo1 ra p1 => p1 ι1 H1 _ .refl mo1 (eo1.set ra)
/-- what a target's store leaves: the slots that it names alone -/
structure Stored (K : Kw) (ι : List Addr) (H : Hp) (is : List Nat) (env' : Env) (σ σ' : L2.St) : Prop where
  len : σ'.length = σ.length
  out : ∀ i, i ∉ is → σ'[i]? = σ[i]?
  ok : EnvOk K ι H env' σ'
def GtOk (K : Kw) (t : Tg) (g : TG) : Prop := ∀ (ι : List Addr) (H : Hp) (m : Mm) (env env' : Env) (σ : L2.St) (w : Wd) (v : V) (Q : L2.St → Hp → Prop), MemOk K ι m H → EnvOk K ι H env σ → RelW K ι H w v → t.put w env = some env' →
  (∀ σ', Stored K ι H t.slots env' σ σ' → Q σ' H) → g v σ H Q
def GtsOk (K : Kw) (ts : List Tg) (g : TGs) : Prop := ∀ (ι : List Addr) (H : Hp) (m : Mm) (env env' : Env) (σ : L2.St) (ws : List Wd) (vs : List V) (Q : L2.St → Hp → Prop), MemOk K ι m H → EnvOk K ι H env σ → RelWs K ι H ws vs → Tg.putAll ts ws env = some env' →
  (∀ σ', Stored K ι H (Tg.slotsAll ts) env' σ σ' → Q σ' H) → g vs σ H Q
theorem gt_name {i : Nat} : GtOk K (.name i) (gName i) := by
  intro ι H m env env' σ w v Q mo eo r e h
  have e' : some (env.set i (some w)) = some env' := e
  cases e'
  exact h _ ⟨by simp, fun j hj => List.getElem?_set_ne (fun z => hj (by rw [← z]; exact List.mem_singleton.mpr rfl)), eo.set r⟩
theorem gts_nil : GtsOk K [] gNil := by
  intro ι H m env env' σ w v Q mo eo r e h
  cases r with
  | nil =>
    have e' : some env = some env' := e
    cases e'
    exact ⟨rfl, h _ ⟨rfl, fun _ _ => rfl, eo⟩⟩
  | cons _ _ => cases e
theorem gts_cons {t : Tg} {ts : List Tg} {g : TG} {gs : TGs} (h1 : GtOk K t g) (h2 : GtsOk K ts gs) : GtsOk K (t :: ts) (gCons g gs) := by
  intro ι H m env env' σ ws vs Q mo eo r e h
  cases r with
  | nil => cases e
  | cons ra rr =>
    rename_i w wr v vr
    have e' : ((t.put w env).bind fun env => Tg.putAll ts wr env) = some env' := e
    obtain ⟨e1, q1, q2⟩ := Option.bind_eq_some_iff.mp e'
    refine ⟨v, vr, rfl, h1 ι H m env e1 σ w v _ mo eo ra q1 fun σ1 s1 => ?_⟩
    refine h2 ι H m e1 env' σ1 wr vr Q mo s1.ok rr q2 fun σ2 s2 => h σ2 ⟨s2.len.trans s1.len, fun i hi => ?_, s2.ok⟩
    have hi' : i ∉ t.slots ++ Tg.slotsAll ts := hi
    rw [List.mem_append] at hi'
    rw [s2.out i fun z => hi' (.inr z), s1.out i fun z => hi' (.inl z)]
theorem putAll_length : ∀ {ts : List Tg} {ws : List Wd} {env env' : Env}, Tg.putAll ts ws env = some env' → ts.length = ws.length
  | [], [], _, _, _ => rfl
  | [], _ :: _, _, _, e => by cases e
  | _ :: _, [], _, _, e => by cases e
  | t :: ts, w :: ws, env, env', e => by
    have e' : ((t.put w env).bind fun env => Tg.putAll ts ws env) = some env' := e
    obtain ⟨e1, q1, q2⟩ := Option.bind_eq_some_iff.mp e'
    exact congrArg (· + 1) (putAll_length q2)
theorem gt_tup {ts : List Tg} {n : Nat} {gs : TGs} (h : GtsOk K ts gs) (hn : ts.length = n) : GtOk K (.tup ts) (gTup K n gs) := by
  intro ι H m env env' σ w v Q mo eo r e hq
  have e' : ((tupOf w).bind fun ws => Tg.putAll ts ws env) = some env' := e
  obtain ⟨ws, q1, q2⟩ := Option.bind_eq_some_iff.mp e'
  obtain ⟨a, vs, rfl, hs, rs⟩ := tupOf_ok q1 r
  refine ⟨a, vs, rfl, hs, ?_, h ι H m env env' σ ws vs Q mo eo rs q2 hq⟩
  rw [← rs.length, ← hn]
  exact (putAll_length q2).symm
theorem ds_asg {tg e : Expr} {pos : Pos} {t : Tg} {g : TG} {f : Em Wd} (h : PE X e (tE X.KW W f)) (hg : PG X tg g) (hk : GtOk X.KW t g) (hs : swapsWithSole [tg] e pos.line X.env = pure false := by rfl) (hw : swappedStores [tg] e X.env = pure none := by rfl)
    (h1 : (assignEach [tg] X.env).map (·.2) = [assign tg X.env] := by rfl) : PS X (.Assign [tg] e pos) (tS X.KW W (sAsg t f)) :=
  PSimp (ps_asg h hg hs hw h1) fun D σ H ⟨ι, env, m, eo, mo, p⟩ => PostS.bind eo mo p fun ι1 H1 a x m1 st1 mo1 eo1 ra p1 => by
    cases q : t.put a env with
    | none => simp only [q] at p1; exact p1.elim
    | some e1 =>
      simp only [q] at p1
      exact hk ι1 H1 m1 env e1 σ a x _ mo1 eo1 ra q fun σ' s' => p1 ι1 H1 σ' .refl mo1 s'.ok
end
end DL
set_option Elab.async false
set_option linter.all false
set_option maxRecDepth 100000
set_option maxHeartbeats 2000000
namespace DL
open PySem PySem.Spec PyProof.Rows L2
open Classical in
/-- what must still stand while a thing is walked -/
noncomputable def gdOk (gd : List (Nat × Cell)) (m : Mm) : Bool := decide (∀ p ∈ gd, m.cells[p.1]? = some p.2)
abbrev Gd := List (Nat × Cell)
theorem gdOk_iff {gd : Gd} {m : Mm} : gdOk gd m = true ↔ ∀ p ∈ gd, m.cells[p.1]? = some p.2 := by
  unfold gdOk; simp
@[simp] theorem gdOk_nil {m : Mm} : gdOk [] m = true := gdOk_iff.mpr fun _ h => nomatch h
theorem gdOk_one {n : Nat} {c : Cell} {m : Mm} (h : m.cells[n]? = some c) : gdOk [(n, c)] m = true := gdOk_iff.mpr fun p hp => by rw [List.mem_singleton.mp hp]; exact h
def whN (c : Em Bool) (b : Sm) : Nat → Sm
  | 0 => fun _ _ => .stuck
  | n + 1 => fun env m => rs (c env m) env fun t m => if t = true then (match b env m with
    | .go .nx e m => whN c b n e m
    | .go .ct e m => whN c b n e m
    | .go .bk e m => .go .nx e m
    | r => r) else .go .nx env m
open Classical in
noncomputable def sWh (c : Em Bool) (b : Sm) : Sm := fun env m => if h : ∃ n, whN c b n env m ≠ .stuck then whN c b (Classical.choose h) env m else .stuck
theorem whN_mono {c : Em Bool} {b : Sm} : ∀ {n : Nat} {env : Env} {m : Mm}, whN c b n env m ≠ .stuck → whN c b (n + 1) env m = whN c b n env m
  | 0, env, m, h => absurd rfl h
  | n + 1, env, m, h => by
    have h' : (rs (c env m) env fun t m => if t = true then (match b env m with
      | .go .nx e m => whN c b n e m
      | .go .ct e m => whN c b n e m
      | .go .bk e m => .go .nx e m
      | r => r) else .go .nx env m) ≠ .stuck := h
    show (rs (c env m) env fun t m => if t = true then (match b env m with
      | .go .nx e m => whN c b (n + 1) e m
      | .go .ct e m => whN c b (n + 1) e m
      | .go .bk e m => .go .nx e m
      | r => r) else .go .nx env m) = (rs (c env m) env fun t m => if t = true then (match b env m with
      | .go .nx e m => whN c b n e m
      | .go .ct e m => whN c b n e m
      | .go .bk e m => .go .nx e m
      | r => r) else .go .nx env m)
    cases q : c env m with
    | stuck => rfl
    | exc x m1 => rfl
    | ok t m1 =>
      rw [q] at h'
      simp only [rs_ok] at h' ⊢
      cases t with
      | false => rfl
      | true =>
        simp only [if_true] at h' ⊢
        cases q2 : b env m1 with
        | stuck => rfl
        | exc x e m2 => rfl
        | go f e m2 =>
          rw [q2] at h'
          cases f with
          | nx => exact whN_mono h'
          | ct => exact whN_mono h'
          | bk => rfl
          | rt w => rfl
theorem whN_le {c : Em Bool} {b : Sm} {n k : Nat} {env : Env} {m : Mm} (h : whN c b n env m ≠ .stuck) : whN c b (n + k) env m = whN c b n env m := by
  induction k with
  | zero => rfl
  | succ k ih => rw [← Nat.add_assoc, whN_mono (by rw [ih]; exact h), ih]
theorem sWh_of {c : Em Bool} {b : Sm} {n : Nat} {env : Env} {m : Mm} {r : Sr} (h : whN c b n env m = r) (hr : r ≠ .stuck) : sWh c b env m = r := by
  have ex : ∃ n, whN c b n env m ≠ .stuck := ⟨n, by rw [h]; exact hr⟩
  unfold sWh
  rw [dif_pos ex]
  have h1 := Classical.choose_spec ex
  have e1 := whN_le (k := n) h1
  have e2 : whN c b (n + Classical.choose ex) env m = whN c b n env m := whN_le (by rw [h]; exact hr)
  rw [Nat.add_comm] at e2
  rw [← e1, e2, h]
/-- the while, one turn told -/
theorem sWh_unf {c : Em Bool} {b : Sm} {env : Env} {m : Mm} : sWh c b env m = rs (c env m) env fun t m => if t = true then (match b env m with
    | .go .nx e m => sWh c b e m
    | .go .ct e m => sWh c b e m
    | .go .bk e m => .go .nx e m
    | r => r) else .go .nx env m := by
  cases q : c env m with
  | stuck =>
    simp only [rs_stuck]
    unfold sWh
    rw [dif_neg]
    rintro ⟨n, hn⟩
    cases n with
    | zero => exact hn rfl
    | succ n => exact hn (by show rs (c env m) env _ = _; rw [q]; rfl)
  | exc x m1 => exact sWh_of (n := 1) (by show rs (c env m) env _ = _; rw [q]; rfl) (by simp)
  | ok t m1 =>
    simp only [rs_ok]
    cases t with
    | false => exact sWh_of (n := 1) (by show rs (c env m) env _ = _; rw [q]; rfl) (by simp)
    | true =>
      simp only [if_true]
      have step : ∀ n, whN c b (n + 1) env m = (match b env m1 with
        | .go .nx e m => whN c b n e m
        | .go .ct e m => whN c b n e m
        | .go .bk e m => .go .nx e m
        | r => r) := fun n => by
        show rs (c env m) env _ = _
        rw [q]; rfl
      have again : ∀ e m2, (∀ n, whN c b (n + 1) env m = whN c b n e m2) → sWh c b env m = sWh c b e m2 := fun e m2 h => by
        by_cases ex : ∃ n, whN c b n e m2 ≠ .stuck
        · obtain ⟨n, hn⟩ := ex
          rw [sWh_of (n := n + 1) (h n) hn, sWh_of (n := n) rfl hn]
        · have ex2 : ¬ ∃ n, whN c b n env m ≠ .stuck := by
            rintro ⟨n, hn⟩
            cases n with
            | zero => exact hn rfl
            | succ n => exact ex ⟨n, by rw [← h n]; exact hn⟩
          unfold sWh
          rw [dif_neg ex, dif_neg ex2]
      cases q2 : b env m1 with
      | stuck =>
        unfold sWh
        rw [dif_neg]
        rintro ⟨n, hn⟩
        cases n with
        | zero => exact hn rfl
        | succ n => exact hn (by rw [step n, q2])
      | exc x e m2 => exact sWh_of (n := 1) (by rw [step 0, q2]) (by simp)
      | go f e m2 =>
        cases f with
        | nx => exact again e m2 fun n => by rw [step n, q2]
        | ct => exact again e m2 fun n => by rw [step n, q2]
        | bk => exact sWh_of (n := 1) (by rw [step 0, q2]) (by simp)
        | rt w => exact sWh_of (n := 1) (by rw [step 0, q2]) (by simp)
/-- over the items of a list -/
noncomputable def forL (t : Tg) (b : Sm) (gd : Gd) : List Wd → Sm
  | [] => fun env m => if gdOk gd m = true then .go .nx env m else .stuck
  | w :: ws => fun env m => if gdOk gd m = true then (match t.put w env with
    | none => .stuck
    | some e => match b e m with
      | .go .nx e m => forL t b gd ws e m
      | .go .ct e m => forL t b gd ws e m
      | .go .bk e m => .go .nx e m
      | r => r) else .stuck
noncomputable def sFor (s : Em (List Wd × Gd)) (t : Tg) (b : Sm) : Sm := fun env m => rs (s env m) env fun p m => forL t b p.2 p.1 env m
/-- a comprehension's items -/
noncomputable def lcL (t : Tg) (c : Em Bool) (f : Em Wd) (gd : Gd) (env : Env) : List Wd → List Wd → Mm → Rs (List Wd)
  | [], acc, m => if gdOk gd m = true then .ok acc m else .stuck
  | w :: ws, acc, m => if gdOk gd m = true then (match t.put w env with
    | none => .stuck
    | some e => (c e m).bind fun b m => if b = true then (f e m).bind fun x m => (if acc.length < LIM then lcL t c f gd env ws (acc ++ [x]) m else .stuck) else lcL t c f gd env ws acc m) else .stuck
noncomputable def eLc (s : Em (List Wd × Gd)) (t : Tg) (c : Em Bool) (f : Em Wd) (own : List Nat) : Em Wd := fun env m => (s env m).bind fun p m => match lcL t c f p.2 (forget own env) p.1 [] m with
  | .ok xs m => .ok (.ref m.cells.length) (m.push (.lst xs))
  | _ => .stuck
section
variable {K : Kw} {W : L2.WX} {ι ι' ι0 : List Addr} {H H' H0 : Hp} {env : Env} {σ : L2.St} {m : Mm} {X : Cx}
theorem closeS_step {n0 : Nat} {held : Bool} (mo : MemOk K ι m H) (st : Stp ι0 H0 ι H) (hb : ι0.length ≤ n0) : ∃ ι2, Stp ι0 H0 ι2 H ∧ MemOk K ι2 (m.closeS n0 held) H ∧ (ι2 = ι ∨ (held = true ∧ ι2 = ι.take n0)) := by
  obtain ⟨ι2, _, h2, h3⟩ := mo.closeS (n0 := n0) (held := held)
  refine ⟨ι2, ?_, h2, h3⟩
  rcases h3 with e | ⟨_, e⟩
  · rw [e]; exact st
  · rw [e]; exact st.take hb
theorem ds_while {c : Expr} {body : List Stmt} {pos : Pos} {fc : Em Bool} {b : Sm} (hp : PassesOwn (model X.prog X.w) X.A X.env X.xe) (hc : PT X c (tT X.KW W fc)) (hb : PSs X body (tS X.KW W b)) : PS X (.While c body [] pos) (tS X.KW W (sWh fc b)) :=
  PSimp (ps_while hp hc hb) fun D σ H ⟨ι, env, m, eo, mo, p⟩ => by
    have ex : ∃ n, whN fc b n env m ≠ .stuck := by
      by_cases ex : ∃ n, whN fc b n env m ≠ .stuck
      · exact ex
      · have : sWh fc b env m = .stuck := by unfold sWh; rw [dif_neg ex]
        rw [this] at p; exact p.elim
    obtain ⟨n0, hn0⟩ := ex
    rw [sWh_of (n := n0) rfl hn0] at p
    refine ⟨fun n σ' H' => ∃ ι' env' m', Stp ι H ι' H' ∧ EnvOk X.KW ι' H' env' σ' ∧ MemOk X.KW ι' m' H' ∧ PostS X.KW W D ι' H' (whN fc b n env' m'), ⟨n0, ι, env, m, .refl, eo, mo, p⟩, ?_⟩
    rintro n σ' H' ⟨ι', env', m', st, eo', mo', p'⟩
    cases n with
    | zero => exact p'.elim
    | succ n =>
      have p2 : PostS X.KW W D ι' H' (rs (fc env' m') env' fun t m => if t = true then (match b env' m with
        | .go .nx e m => whN fc b n e m
        | .go .ct e m => whN fc b n e m
        | .go .bk e m => .go .nx e m
        | r => r) else .go .nx env' m) := p'
      refine PostS.bind eo' mo' p2 fun ι1 H1 t x m1 st1 mo1 eo1 ra p1 => ?_
      subst ra
      cases t with
      | false => exact p1 ι1 H1 σ' .refl mo1 eo1
      | true =>
        simp only [if_true] at p1 ⊢
        refine ⟨fun σ2 H2 => ∃ ι2 env2 m2, Stp ι1 H1 ι2 H2 ∧ EnvOk X.KW ι2 H2 env2 σ2 ∧ MemOk X.KW ι2 m2 H2 ∧ PostS X.KW W D ι2 H2 (whN fc b n env2 m2), fun σ2 H2 ⟨ι2, env2, m2, s2, eo2, mo2, q2⟩ => ⟨n, Nat.lt_succ_self n, ι2, env2, m2, (st.trans st1).trans s2, eo2, mo2, q2⟩, ι1, env', m1, eo1, mo1, ?_⟩
        cases q : b env' m1 with
        | stuck => rw [q] at p1; exact p1
        | exc x e m2 => rw [q] at p1; exact p1
        | go f e m2 =>
          rw [q] at p1
          cases f with
          | nx => exact fun ι2 H2 σ2 s2 mo2 eo2 => ⟨ι2, e, m2, s2, eo2, mo2, PostS.step s2 p1⟩
          | ct => exact fun ι2 H2 σ2 s2 mo2 eo2 => ⟨ι2, e, m2, s2, eo2, mo2, PostS.step s2 p1⟩
          | bk => exact p1
          | rt w => exact p1
structure Src (K : Kw) (J : It) (xs : List Wd) (gd : Gd) (ι0 : List Addr) (H0 : Hp) : Prop where
  go : ∀ (i : Nat) ι m H, i < xs.length → Stp ι0 H0 ι H → MemOk K ι m H → gdOk gd m = true → J.go i H
  yld : ∀ (i : Nat) ι m H x H' w, Stp ι0 H0 ι H → MemOk K ι m H → gdOk gd m = true → J.yld i H x H' → xs[i]? = some w → Stp ι H ι H' ∧ MemOk K ι m H' ∧ RelW K ι H' w x
  stop : ∀ (i : Nat) ι m H, xs.length ≤ i → Stp ι0 H0 ι H → MemOk K ι m H → gdOk gd m = true → J.stop i H
def tI (K : Kw) (W : L2.WX) (s : Em (List Wd × Gd)) : TI := fun σ H R => ∃ ι env m, EnvOk K ι H env σ ∧ MemOk K ι m H ∧ match s env m with
  | .ok (xs, gd) m1 => ∀ ι1 H1 J, Stp ι H ι1 H1 → MemOk K ι1 m1 H1 → Src K J xs gd ι1 H1 → R J H1
  | .exc x m1 => ∀ ι1 H1 cls d, Stp ι H ι1 H1 → MemOk K ι1 m1 H1 → ExOk K ι1 H1 x cls d → W cls d σ H1
  | .stuck => False
theorem PIimp {tg e : Expr} {w w' : TI} (h : PI X tg e w) (i : ∀ σ H R, w' σ H R → w σ H R) : PI X tg e w' := ⟨fun pins s σ H R I hw => h.run pins s σ H R I (i σ H R hw)⟩
theorem PIor {tg e : Expr} {w w' : TI} (h : PI X tg e w) (h' : PI X tg e w') : PI X tg e (fun σ H R => w σ H R ∨ w' σ H R) := ⟨fun pins s σ H R I hw => hw.elim (h.run pins s σ H R I) (h'.run pins s σ H R I)⟩
theorem ds_for {tg iter : Expr} {body : List Stmt} {pos : Pos} {s : Em (List Wd × Gd)} {t : Tg} {g : TG} {b : Sm} (hp : PassesOwn (model X.prog X.w) X.A X.env X.xe) (hc : X.calm = true) (hi : PI X tg iter (tI X.KW W s)) (hg : PG X tg g) (hk : GtOk X.KW t g) (hb : PSs X body (tS X.KW W b))
    (hs : ∀ x, foldedSetIterable iter X.env x = pure x := by intro _; rfl) : PS X (.For tg iter body [] pos) (tS X.KW W (sFor s t b)) :=
  PSimp (ps_for hp hc hi hg hb hs) fun D σ H ⟨ι, env, m, eo, mo, p⟩ => by
    refine ⟨ι, env, m, eo, mo, ?_⟩
    have p' : PostS X.KW W D ι H (rs (s env m) env fun p m => forL t b p.2 p.1 env m) := p
    cases q : s env m with
    | stuck => rw [q] at p'; exact p'.elim
    | exc x m1 => rw [q] at p'; exact fun ι1 H1 cls d st mo1 xo => p' ι1 H1 σ cls d st mo1 (eo.step mo.apart st) xo
    | ok pr m1 =>
      obtain ⟨xs, gd⟩ := pr
      rw [q] at p'
      intro ι1 H1 J st1 mo1 sr
      have p1 : PostS X.KW W D ι1 H1 (forL t b gd xs env m1) := PostS.step st1 p'
      refine ⟨fun i n σ' H' => n = xs.length - i ∧ i ≤ xs.length ∧ ∃ ι' env' m', Stp ι1 H1 ι' H' ∧ EnvOk X.KW ι' H' env' σ' ∧ MemOk X.KW ι' m' H' ∧ PostS X.KW W D ι' H' (forL t b gd (xs.drop i) env' m'), ⟨xs.length, by simp, Nat.zero_le _, ι1, env, m1, .refl, eo.step mo.apart st1, mo1, p1⟩, ?_⟩
      rintro i n σ' H' ⟨hn, hi', ι', env', m', st', eo', mo', pp⟩
      by_cases hlt : i < xs.length
      · rw [List.drop_eq_getElem_cons hlt] at pp
        have pp' : PostS X.KW W D ι' H' (if gdOk gd m' = true then (match t.put xs[i] env' with
          | none => .stuck
          | some e => match b e m' with
            | .go .nx e m => forL t b gd (xs.drop (i + 1)) e m
            | .go .ct e m => forL t b gd (xs.drop (i + 1)) e m
            | .go .bk e m => .go .nx e m
            | r => r) else .stuck) := pp
        by_cases hgd : gdOk gd m' = true
        · rw [if_pos hgd] at pp'
          refine .inr ⟨sr.go i ι' m' H' hlt st' mo' hgd, fun σ2 H2 => ∃ ι2 env2 m2, Stp ι1 H1 ι2 H2 ∧ EnvOk X.KW ι2 H2 env2 σ2 ∧ MemOk X.KW ι2 m2 H2 ∧ PostS X.KW W D ι2 H2 (forL t b gd (xs.drop (i + 1)) env2 m2), fun σ2 H2 h2 => ⟨xs.length - (i + 1), by omega, rfl, hlt, h2⟩, fun x H2 hy => ?_⟩
          obtain ⟨s2, mo2, r2⟩ := sr.yld i ι' m' H' x H2 xs[i] st' mo' hgd hy (List.getElem?_eq_getElem hlt)
          cases qp : t.put xs[i] env' with
          | none => rw [qp] at pp'; exact pp'.elim
          | some e =>
            rw [qp] at pp'
            refine hk ι' H2 m' env' e σ' xs[i] x _ mo2 (eo'.step mo'.apart s2) r2 qp fun σ3 s3 => ⟨ι', e, m', s3.ok, mo2, ?_⟩
            simp only [] at pp'
            cases qb : b e m' with
            | stuck => rw [qb] at pp'; exact pp'
            | exc x e1 m2 => rw [qb] at pp'; exact PostS.step s2 pp'
            | go f e1 m2 =>
              rw [qb] at pp'
              cases f with
              | nx => exact fun ι4 H4 σ4 s4 mo4 eo4 => ⟨ι4, e1, m2, (st'.trans s2).trans s4, eo4, mo4, PostS.step (s2.trans s4) pp'⟩
              | ct => exact fun ι4 H4 σ4 s4 mo4 eo4 => ⟨ι4, e1, m2, (st'.trans s2).trans s4, eo4, mo4, PostS.step (s2.trans s4) pp'⟩
              | bk => exact fun ι4 H4 σ4 s4 mo4 eo4 => pp' ι4 H4 σ4 (s2.trans s4) mo4 eo4
              | rt w => exact fun ι4 H4 σ4 s4 mo4 eo4 => pp' ι4 H4 σ4 (s2.trans s4) mo4 eo4
        · rw [if_neg hgd] at pp'; exact pp'.elim
      · have e : i = xs.length := by omega
        subst e
        rw [List.drop_length] at pp
        have pp' : PostS X.KW W D ι' H' (if gdOk gd m' = true then .go .nx env' m' else .stuck) := pp
        by_cases hgd : gdOk gd m' = true
        · rw [if_pos hgd] at pp'
          exact .inl ⟨sr.stop _ ι' m' H' (Nat.le_refl _) st' mo' hgd, pp' ι' H' σ' .refl mo' eo'⟩
        · rw [if_neg hgd] at pp'; exact pp'.elim
end
end DL
set_option Elab.async false
set_option linter.all false
set_option maxRecDepth 100000
set_option maxHeartbeats 2000000
namespace DL
open PySem PySem.Spec PyProof.Rows L2
section
variable {K : Kw} {W : L2.WX} {ι ι' ι0 : List Addr} {H H' H0 : Hp} {env : Env} {σ : L2.St} {m : Mm} {X : Cx}
structure Kept (K : Kw) (ι : List Addr) (H : Hp) (ι' : List Addr) (H' : Hp) : Prop where
  pre : ι <+: ι'
  tup : ∀ a xs, SqP K H a xs → SqP K H' a xs
  rol : ∀ a xs, Rol K H a xs → Rol K H' a xs
  ext : ∀ a p, H a = some (.ext p) → H' a = some (.ext p)
mutual
theorem RelD.keep (k : Kept K ι H ι' H') : ∀ {d : PyData} {v : V}, RelD K H d v → RelD K H' d v
  | _, _, .non => .non
  | _, _, .bl b => .bl b
  | _, _, .int i => .int i
  | _, _, .str x => .str x
  | _, _, .tup h hs => .tup (k.tup _ _ h) (RelDs.keep k hs)
theorem RelDs.keep (k : Kept K ι H ι' H') : ∀ {d : List PyData} {v : List V}, RelDs K H d v → RelDs K H' d v
  | _, _, .nil => .nil
  | _, _, .cons h hs => .cons (RelD.keep k h) (RelDs.keep k hs)
end
mutual
theorem RelW.keep (k : Kept K ι H ι' H') : ∀ {d : Wd} {v : V}, RelW K ι H d v → RelW K ι' H' d v
  | _, _, .d h => .d (h.keep k)
  | _, _, .ref h => .ref (pre_get k.pre h)
  | _, _, .tup h hs => .tup (k.tup _ _ h) (RelWs.keep k hs)
  | _, _, .rol h hs => .rol (k.rol _ _ h) (RelWs.keep k hs)
  | _, _, .v x => .v x
theorem RelWs.keep (k : Kept K ι H ι' H') : ∀ {d : List Wd} {v : List V}, RelWs K ι H d v → RelWs K ι' H' d v
  | _, _, .nil => .nil
  | _, _, .cons h hs => .cons (RelW.keep k h) (RelWs.keep k hs)
end
theorem KvOk.keep (k : Kept K ι H ι' H') : ∀ {d : List (PyData × Wd)} {v : List (Key × V)}, KvOk K ι H d v → KvOk K ι' H' d v
  | [], [], _ => True.intro
  | (_, _) :: _, (_, _) :: _, ⟨h1, h2, h3⟩ => ⟨h1, h2.keep k, KvOk.keep k h3⟩
  | [], _ :: _, h => h.elim
  | _ :: _, [], h => h.elim
theorem NvOk.keep (k : Kept K ι H ι' H') : ∀ {d : List (PyData × Wd)} {v : List (NestedKey × Addr × Value)}, NvOk K ι H d v → NvOk K ι' H' d v
  | [], [], _ => True.intro
  | (_, _) :: _, (_, _, _) :: _, ⟨h1, h2, ⟨v, h3, h4⟩, h5⟩ => ⟨h1, h2.keep k, ⟨v, h3.keep k, h4⟩, NvOk.keep k h5⟩
  | [], _ :: _, h => h.elim
  | _ :: _, [], h => h.elim
theorem GvOk.keep (k : Kept K ι H ι' H') : ∀ {d : List (PyData × Wd)} {v : List (NestedKey × Value × Value)}, GvOk K ι H d v → GvOk K ι' H' d v
  | [], [], _ => True.intro
  | (_, _) :: _, (_, _, _) :: _, ⟨h1, ⟨y, h2, h6⟩, ⟨v, h3, h4⟩, h5⟩ => ⟨h1, ⟨y, h2.keep k, h6⟩, ⟨v, h3.keep k, h4⟩, GvOk.keep k h5⟩
  | [], _ :: _, h => h.elim
  | _ :: _, [], h => h.elim
theorem FsOk.keep (k : Kept K ι H ι' H') : ∀ {d : List (Str × Wd)} {v : List (Str × V)}, FsOk K ι H d v → FsOk K ι' H' d v
  | [], [], _ => True.intro
  | (_, _) :: _, (_, _) :: _, ⟨h1, h2, h3⟩ => ⟨h1, h2.keep k, FsOk.keep k h3⟩
  | [], _ :: _, h => h.elim
  | _ :: _, [], h => h.elim
theorem CellOk.keep {a : Addr} {c : Cell} (k : Kept K ι H ι' H') (ha : H' a = H a) (h : CellOk K ι H a c) : CellOk K ι' H' a c := by
  cases c with
  | lst xs => obtain ⟨vs, e, r⟩ := h; exact ⟨vs, ha.trans e, r.keep k⟩
  | dct kvs => obtain ⟨ks, e, r⟩ := h; exact ⟨ks, ha.trans e, r.keep k⟩
  | ndc kvs => obtain ⟨h0, o, es, ep, xs, e, h1, h2, h3, h4, h5, r⟩ := h; exact ⟨h0, o, es, ep, xs, ha.trans e, h1, h2, h3, h4, h5, r.keep k⟩
  | gdc kvs => obtain ⟨h0, o, es, xs, e, h1, h2, h3, h4, h5, r⟩ := h; exact ⟨h0, o, es, xs, ha.trans e, h1, h2, h3, h4, h5, r.keep k⟩
  | ins c fs => obtain ⟨C, dx, gs, e0, e, r⟩ := h; exact ⟨C, dx, gs, e0, ha.trans e, r.keep k⟩
  | tab x q =>
    obtain ⟨h0, ps, e, h2, h3⟩ := h
    refine ⟨h0, ps, ha.trans e, h2, fun pos cv hc => ?_⟩
    obtain ⟨b, e1, e2⟩ := h3 pos cv hc
    exact ⟨b, e1, k.ext _ _ e2⟩
/-- a tracked list at D, no cell, is changed -/
theorem kept_upd {D : Addr} {xs ys : List V} (hD : H D = some (.lst xs)) : Kept K ι H ι (upd H D (.lst ys)) where
  pre := List.prefix_refl _
  tup := fun a zs hh => by
    refine ⟨?_, ?_⟩
    · have h := hh.1
      rcases h with h | h
      · have n : a ≠ D := fun e => by
          subst e
          rcases h with h | ⟨o, h⟩
          · rw [hD] at h; cases h
          · rw [hD] at h; cases h
        rcases h with h | ⟨o, h⟩
        · exact .inl (.inl (by rw [upd_ne n]; exact h))
        · exact .inl (.inr ⟨o, by rw [upd_ne n]; exact h⟩)
      · exact .inr h
    · rcases hh.2 with ⟨o, u, e, d⟩ | r
      · exact .inl ⟨o, u, by rw [upd_ne (fun z => by rw [z, hD] at e; cases e)]; exact e, d⟩
      · exact .inr r
  ext := fun a p h => by rw [upd_ne (fun e => by rw [e, hD] at h; cases h)]; exact h
  rol := fun a zs h => by
    rcases h with ⟨o, h⟩ | h
    · have n : a ≠ D := fun e => by rw [e, hD] at h; cases h
      exact .inl ⟨o, by rw [upd_ne n]; exact h⟩
    · exact .inr h
theorem kept_more {D : Addr} : Kept K ι H (ι ++ [D]) H := ⟨List.prefix_append _ _, fun _ _ h => h, fun _ _ h => h, fun _ _ h => h⟩
theorem MemOk.upd {D : Addr} {xs ys : List V} (mo : MemOk K ι m H) (hD : H D = some (.lst xs)) (hn : D ∉ ι) : MemOk K ι m (upd H D (.lst ys)) :=
  ⟨mo.len, mo.nd, fun n a c h1 h2 => (mo.cell n a c h1 h2).keep (kept_upd hD) (upd_ne fun e => hn (by rw [← e]; exact List.mem_of_getElem? h1)), mo.top, mo.ord, mo.clean⟩
/-- it becomes a cell -/
theorem MemOk.adopt {D : Addr} {ws : List Wd} {xs : List V} (mo : MemOk K ι m H) (hD : H D = some (.lst xs)) (hn : D ∉ ι) (r : RelWs K ι H ws xs) : MemOk K (ι ++ [D]) (m.push (.lst ws)) H := by
  refine ⟨by simp [Mm.push, mo.len], ?_, fun n a c' h1 h2 => ?_, fun q hq => ?_, mo.ord, fun q hq n c' hlt hd hc => ?_⟩
  · rw [List.nodup_append]
    exact ⟨mo.nd, by simp, fun a ha b hb e => hn (by rw [List.mem_singleton.mp hb] at e; rw [← e]; exact ha)⟩
  · by_cases hlt : n < ι.length
    · rw [List.getElem?_append_left hlt] at h1
      have h2' : m.cells[n]? = some c' := by
        have : (m.cells ++ [Cell.lst ws])[n]? = some c' := h2
        rwa [List.getElem?_append_left (by rw [← mo.len]; exact hlt)] at this
      exact (mo.cell n a c' h1 h2').keep kept_more rfl
    · have hl := get_of h1
      rw [List.length_append, List.length_singleton] at hl
      have e : n = ι.length := by omega
      subst e
      have e1 : a = D := by simpa using h1.symm
      have e2 : c' = Cell.lst ws := by
        have : (m.cells ++ [Cell.lst ws])[ι.length]? = some c' := h2
        rw [mo.len] at this
        simpa using this.symm
      subst e1; subst e2
      exact ⟨xs, hD, r.keep kept_more⟩
  · have := mo.top q hq
    show q.1 ≤ (m.cells ++ [Cell.lst ws]).length
    rw [List.length_append]; omega
  · have ht := mo.top q hq
    have hc' : (m.cells ++ [Cell.lst ws])[n]? = some c' := hc
    rw [List.getElem?_append_left (by omega)] at hc'
    exact mo.clean q hq n c' hlt hd hc'
theorem wipe_env : ∀ {vs : List Nat} {env : Env} {σ : L2.St}, EnvOk K ι H env σ → EnvOk K ι H (forget vs env) (wipe σ vs)
  | [], _, _, h => h
  | v :: vs, env, σ, h => by
    have ih := wipe_env (vs := vs) h
    refine ⟨by simp [forget, wipe, ih.1], fun j u e => ?_⟩
    have e' : ((forget vs env).set v none)[j]? = some (some u) := e
    by_cases hj : j = v
    · subst hj
      have hl := get_of e'
      rw [List.length_set] at hl
      rw [List.getElem?_set_self hl] at e'
      cases e'
    · rw [List.getElem?_set_ne (Ne.symm hj)] at e'
      obtain ⟨x, e1, r⟩ := ih.2 j u e'
      exact ⟨x, by show ((wipe σ vs).set v none)[j]? = _; rw [List.getElem?_set_ne (Ne.symm hj)]; exact e1, r⟩
theorem wipe_same : ∀ {vs : List Nat} {σ σ' : L2.St}, σ'.length = σ.length → (∀ i, i ∉ vs → σ'[i]? = σ[i]?) → wipe σ' vs = wipe σ vs := by
  intro vs σ σ' hl h
  have get : ∀ (vs : List Nat) (σ : L2.St) (i : Nat), (wipe σ vs)[i]? = if i ∈ vs then (if i < σ.length then some none else none) else σ[i]? := by
    intro vs
    induction vs with
    | nil => intro σ i; simp [wipe]
    | cons v vs ih =>
      intro σ i
      show ((wipe σ vs).set v none)[i]? = _
      by_cases e : i = v
      · subst e
        rw [if_pos List.mem_cons_self]
        by_cases hi : i < σ.length
        · rw [if_pos hi, List.getElem?_set_self (by rw [wipe_length]; exact hi)]
        · rw [if_neg hi, List.getElem?_eq_none (by rw [List.length_set, wipe_length]; omega)]
      · rw [List.getElem?_set_ne (Ne.symm e), ih]
        by_cases hm : i ∈ vs
        · rw [if_pos hm, if_pos (List.mem_cons_of_mem _ hm)]
        · rw [if_neg hm, if_neg (fun z => (List.mem_cons.mp z).elim e hm)]
  apply List.ext_getElem?
  intro i
  rw [get, get, hl]
  split
  · rfl
  · exact h i (by assumption)
/-- the comprehension's reading -/
theorem post_lc {s : Em (List Wd × Gd)} {t : Tg} {g : TG} {c : Em Bool} {f : Em Wd} {own : List Nat} {Q : VK} (hk : GtOk K t g) (hsub : ∀ i ∈ t.slots, i ∈ own) (h : tE K W (eLc s t c f own) σ H Q) : tLc (tI K W s) g (tT K W0 c) (tE K W0 f) own σ H Q := by
  obtain ⟨ι, env, m, eo, mo, p⟩ := h
  refine ⟨ι, env, m, eo, mo, ?_⟩
  have p' : Post K W (RelW K) ι H σ Q ((s env m).bind fun p m => match lcL t c f p.2 (forget own env) p.1 [] m with
    | .ok xs m => .ok (.ref m.cells.length) (m.push (.lst xs))
    | _ => .stuck) := p
  cases q : s env m with
  | stuck => rw [q] at p'; exact p'.elim
  | exc x m1 => rw [q] at p'; exact p'
  | ok pr m1 =>
    obtain ⟨xs, gd⟩ := pr
    rw [q] at p'
    simp only [Rs.bind_ok] at p'
    intro ι1 H1 J st1 mo1 sr D hD
    have nD1 : D ∉ ι1 := mo1.new hD
    have eo1 : EnvOk K ι1 H1 (forget own env) (wipe σ own) := wipe_env (eo.step mo.apart st1)
    -- the end, once the items are known
    let R : Rs (List Wd) → Prop := fun r => match r with
      | .ok ys m2 => ∀ ι2 H2 vs, Stp ι1 H1 ι2 H2 → MemOk K ι2 m2 H2 → D ∉ ι2 → H2 D = some (.lst vs) → RelWs K ι2 H2 ys vs → Q (.ref D) H2
      | _ => False
    have hR : R (lcL t c f gd (forget own env) xs [] m1) := by
      cases q2 : lcL t c f gd (forget own env) xs [] m1 with
      | ok ys m2 =>
        rw [q2] at p'
        intro ι2 H2 vs s2 mo2 nD e2 r2
        have hs : Stp ι H (ι2 ++ [D]) H2 := by
          have hst := st1.trans s2
          refine ⟨hst.pre.trans (List.prefix_append _ _), fun a ha n => ?_, hst.fix⟩
          rcases List.mem_append.mp ha with z | z
          · exact hst.new a z n
          · rw [List.mem_singleton.mp z] at n ⊢
            cases e : H D with
            | none => rfl
            | some o => rw [st1.fix D o e n] at hD; cases hD
        exact p' (ι2 ++ [D]) H2 (.ref D) hs (mo2.adopt e2 nD r2) (.ref (by rw [← mo2.len]; simp))
      | exc x m2 => rw [q2] at p'; exact p'.elim
      | stuck => rw [q2] at p'; exact p'.elim
    refine ⟨fun i n H' => n = xs.length - i ∧ i ≤ xs.length ∧ ∃ ι' m' acc vacc, Stp ι1 H1 ι' H' ∧ MemOk K ι' m' H' ∧ EnvOk K ι' H' (forget own env) (wipe σ own) ∧ D ∉ ι' ∧ H' D = some (.lst vacc) ∧ RelWs K ι' H' acc vacc ∧ R (lcL t c f gd (forget own env) (xs.drop i) acc m'), ⟨xs.length, by simp, Nat.zero_le _, ι1, m1, [], [], ?_, ?_, ?_, nD1, upd_same, .nil, hR⟩, ?_⟩
    · exact stp_tup hD
    · exact mo1.stay (ι' := ι1) (stp_tup hD) fun a ha => upd_ne fun e => nD1 (by rw [← e]; exact ha)
    · exact eo1.step mo1.apart (stp_tup hD)
    rintro i n H' ⟨hn, hi', ι', m', acc, vacc, st', mo', eo', nD, eD, ra, hr⟩
    by_cases hlt : i < xs.length
    · rw [List.drop_eq_getElem_cons hlt] at hr
      have hr' : R (if gdOk gd m' = true then (match t.put xs[i] (forget own env) with
        | none => .stuck
        | some e => (c e m').bind fun b m => if b = true then (f e m).bind fun x m => (if acc.length < LIM then lcL t c f gd (forget own env) (xs.drop (i + 1)) (acc ++ [x]) m else .stuck) else lcL t c f gd (forget own env) (xs.drop (i + 1)) acc m) else .stuck) := hr
      by_cases hgd : gdOk gd m' = true
      · rw [if_pos hgd] at hr'
        refine .inr ⟨sr.go i ι' m' H' hlt st' mo' hgd, fun H2 => ∃ ι2 m2 acc vacc, Stp ι1 H1 ι2 H2 ∧ MemOk K ι2 m2 H2 ∧ EnvOk K ι2 H2 (forget own env) (wipe σ own) ∧ D ∉ ι2 ∧ H2 D = some (.lst vacc) ∧ RelWs K ι2 H2 acc vacc ∧ R (lcL t c f gd (forget own env) (xs.drop (i + 1)) acc m2), fun H2 h2 => ⟨xs.length - (i + 1), by omega, rfl, hlt, h2⟩, fun x H2 hy => ?_⟩
        obtain ⟨s2, mo2, r2⟩ := sr.yld i ι' m' H' x H2 xs[i] st' mo' hgd hy (List.getElem?_eq_getElem hlt)
        cases qp : t.put xs[i] (forget own env) with
        | none => rw [qp] at hr'; exact hr'.elim
        | some e =>
          rw [qp] at hr'
          refine hk ι' H2 m' (forget own env) e (wipe σ own) xs[i] x _ mo2 (eo'.step mo'.apart s2) r2 qp fun σ3 s3 => ⟨?_, ?_⟩
          · refine (wipe_same s3.len fun i hi => s3.out i fun z => hi (hsub i z)).trans ?_
            exact wipe_same (by rw [wipe_length]) fun i hi => by rw [wipe_out hi]
          · simp only [] at hr'
            have eD2 : H2 D = some (.lst vacc) := s2.fix D _ eD nD
            -- the test
            refine ⟨ι', e, m', s3.ok, mo2, ?_⟩
            cases qc : c e m' with
            | stuck => rw [qc] at hr'; exact hr'.elim
            | exc x m2 => rw [qc] at hr'; exact hr'.elim
            | ok b m2 =>
              rw [qc] at hr'
              simp only [Rs.bind_ok] at hr'
              intro ι3 H3 b' s4 mo4 eb
              subst eb
              have nD3 : D ∉ ι3 := fun z => by have := s4.new D z nD; rw [eD2] at this; cases this
              have eD3 : H3 D = some (.lst vacc) := s4.fix D _ eD2 nD
              cases b with
              | false =>
                rw [if_neg (by decide)] at hr' ⊢
                exact ⟨ι3, m2, acc, vacc, (st'.trans s2).trans s4, mo4, (eo'.step mo'.apart s2).step mo2.apart s4, nD3, eD3, (ra.step mo'.apart s2).step mo2.apart s4, hr'⟩
              | true =>
                rw [if_pos rfl] at hr' ⊢
                refine ⟨ι3, e, m2, s3.ok.step mo2.apart s4, mo4, ?_⟩
                cases qf : f e m2 with
                | stuck => rw [qf] at hr'; exact hr'.elim
                | exc x m3 => rw [qf] at hr'; exact hr'.elim
                | ok y m3 =>
                  rw [qf] at hr'
                  simp only [Rs.bind_ok] at hr'
                  intro ι4 H4 v s5 mo5 ry
                  have nD4 : D ∉ ι4 := fun z => by have := s5.new D z nD3; rw [eD3] at this; cases this
                  have eD4 : H4 D = some (.lst vacc) := s5.fix D _ eD3 nD3
                  have ra4 := ((ra.step mo'.apart s2).step mo2.apart s4).step mo4.apart s5
                  by_cases hl : acc.length < LIM
                  · rw [if_pos hl] at hr'
                    have hl2 : vacc.length < sizeLine := by rw [← ra4.length, ← LIM_eq]; exact hl
                    have k := kept_upd (K := K) (ι := ι4) (ys := vacc ++ [v]) eD4
                    refine ⟨vacc, eD4, hl2, ι4, m3, acc ++ [y], vacc ++ [v], ?_, mo5.upd eD4 nD4, ?_, nD4, upd_same, (ra4.keep k).append (.cons (ry.keep k) .nil), hr'⟩
                    · have s6 := ((st'.trans s2).trans s4).trans s5
                      exact ⟨s6.pre, s6.new, fun a o h n => by rw [upd_ne (ne_of_none h hD)]; exact s6.fix a o h n⟩
                    · have e5 := ((eo'.step mo'.apart s2).step mo2.apart s4).step mo4.apart s5
                      exact ⟨e5.1, fun j w q => let ⟨v, q1, r⟩ := e5.2 j w q; ⟨v, q1, r.keep k⟩⟩
                  · rw [if_neg hl] at hr'; exact hr'.elim
      · rw [if_neg hgd] at hr'; exact hr'.elim
    · have e : i = xs.length := by omega
      subst e
      rw [List.drop_length] at hr
      have hr' : R (if gdOk gd m' = true then .ok acc m' else .stuck) := hr
      by_cases hgd : gdOk gd m' = true
      · rw [if_pos hgd] at hr'
        exact .inl ⟨sr.stop _ ι' m' H' (Nat.le_refl _) st' mo' hgd, hr' ι' H' vacc st' mo' nD eD ra⟩
      · rw [if_neg hgd] at hr'; exact hr'.elim
theorem de_lc {elt tg iter : Expr} {ifs : List Expr} {scope : Scope} {own : List (Str × Nat)} {pos : Pos} {s : Em (List Wd × Gd)} {t : Tg} {g : TG} {c : Em Bool} {f : Em Wd} (hc : X.calm = true) (hN : X.N.Nodup) (hi : PI X tg iter (tI X.KW W s)) (ok : BlkOk X.N X.env.scope scope own)
    (hg : ∀ (s : Shared) (H : Hp) (C : Addr) (cl : List (Str × Addr)) (fp : List Addr), PG (X.blk s H scope (compEnvC scope cl C X.env) fp) tg g) (hk : GtOk X.KW t g) (hsub : (t.slots.all fun i => (own.map (·.2)).contains i) = true) (ht : ∀ (s : Shared) (H : Hp) (C : Addr) (cl : List (Str × Addr)) (fp : List Addr), PTs (X.blk s H scope (compEnvC scope cl C X.env) fp) ifs (tT X.KW W0 c))
    (he : ∀ (s : Shared) (H : Hp) (C : Addr) (cl : List (Str × Addr)) (fp : List Addr), PE (X.blk s H scope (compEnvC scope cl C X.env) fp) elt (tE X.KW W0 f)) (hs : ∀ x, foldedSetIterable iter X.env x = pure x := by intro _; rfl) :
    PE X (.ListComp elt [⟨tg, iter, ifs, 0⟩] scope pos) (tE X.KW W (eLc s t c f (own.map (·.2)))) :=
  PEimp (pe_lc hc hN hi ok hg ht he hs) fun σ H Q h => post_lc hk (fun i hi => by simpa using List.all_eq_true.mp hsub i hi) h
theorem ds_setLc {i : Nat} {y : Str} {py : Pos} {elt tg iter : Expr} {ifs : List Expr} {scope : Scope} {own : List (Str × Nat)} {pos spos : Pos} {s : Em (List Wd × Gd)} {t : Tg} {g : TG} {c : Em Bool} {f : Em Wd} (hc : X.calm = true) (hN : X.N.Nodup) (hy : X.N[i]? = some y) (hyl : X.env.scope.names.lookup y = some .local)
    (hsw : swapsWith (.ListComp elt [⟨tg, iter, ifs, 0⟩] scope pos) (some (.Name y py)) spos.line X.env = pure true) (hi : PI X tg iter (tI X.KW W s)) (ok : BlkOk X.N X.env.scope scope own)
    (hg : ∀ (s : Shared) (H : Hp) (C : Addr) (cl : List (Str × Addr)) (fp : List Addr), PG (X.blk s H scope (compEnvC scope cl C X.env) fp) tg g) (hk : GtOk X.KW t g) (hsub : (t.slots.all fun i => (own.map (·.2)).contains i) = true) (ht : ∀ (s : Shared) (H : Hp) (C : Addr) (cl : List (Str × Addr)) (fp : List Addr), PTs (X.blk s H scope (compEnvC scope cl C X.env) fp) ifs (tT X.KW W0 c))
    (he : ∀ (s : Shared) (H : Hp) (C : Addr) (cl : List (Str × Addr)) (fp : List Addr), PE (X.blk s H scope (compEnvC scope cl C X.env) fp) elt (tE X.KW W0 f)) (hs : ∀ x, foldedSetIterable iter X.env x = pure x := by intro _; rfl) :
    PS X (.Assign [.Name y py] (.ListComp elt [⟨tg, iter, ifs, 0⟩] scope pos) spos) (tS X.KW W (sSet i (eLc s t c f (own.map (·.2))))) :=
  PSimp (ps_setLc hc hN hy hyl hsw hi ok hg ht he hs) fun D σ H ⟨ι, env, m, eo, mo, p⟩ =>
    post_lc (Q := fun x H1 => gName i x σ H1 D.nx) hk (fun i hi => by simpa using List.all_eq_true.mp hsub i hi) (PostS.bind eo mo p fun ι1 H1 a x m1 st1 mo1 eo1 ra p1 => p1 ι1 H1 _ .refl mo1 (eo1.set ra))
theorem dts_nil {X : Cx} : PTs X [] (tT X.KW W (fun _ m => .ok true m)) := ⟨fun pins s σ H Q I h => pts_nil.run pins s σ H Q I (let ⟨ι, env, m, eo, mo, p⟩ := h; post_ok p mo rfl)⟩
theorem dts_one {X : Cx} {c : Expr} {f : Em Bool} (h : PT X c (tT X.KW W f)) : PTs X [c] (tT X.KW W f) := pts_one h
theorem exOk_take {b : Nat} {x : Ex} {cls : Value} {d : Option Addr} (h : ExOk K ι H x cls d) (e : Wd.ltAll b (x.fs.map (·.2)) = true) : ExOk K (ι.take b) H x cls d := by
  obtain ⟨C, h1, h2, h3⟩ := h
  refine ⟨C, h1, h2, ?_⟩
  rcases h3 with h3 | ⟨dd, gs, q1, q2, q3⟩
  · exact .inl h3
  · exact .inr ⟨dd, gs, q1, q2, q3.takeI e⟩
theorem start_ok {n : Nat} {ws : List Wd} {N : List Str} {vs : List V} (r : RelWs K ι H ws vs) (hn : N.length = n) : EnvOk K ι H (startE n ws) (L2.start N vs) := by
  refine ⟨by simp [startE, L2.start, r.length, hn], fun i w e => ?_⟩
  have e' : (ws.map some ++ List.replicate (n - ws.length) none)[i]? = some (some w) := e
  by_cases hi : i < ws.length
  · rw [List.getElem?_append_left (by rw [List.length_map]; exact hi), List.getElem?_map] at e'
    cases q : ws[i]? with
    | none => rw [q] at e'; cases e'
    | some w' =>
      rw [q] at e'
      have : w' = w := by simpa using e'
      subst this
      obtain ⟨v, q1, q2⟩ := r.get q
      refine ⟨v, ?_, q2⟩
      show (vs.map some ++ List.replicate (N.length - vs.length) none)[i]? = _
      rw [List.getElem?_append_left (by rw [List.length_map]; exact get_of q1), List.getElem?_map, q1]
      rfl
  · rw [List.getElem?_append_right (by rw [List.length_map]; omega)] at e'
    rw [List.getElem?_replicate] at e'
    split at e' <;> cases e'
theorem fn_start {n k : Nat} {b : Sm} {N : List Str} {vs : List V} {H : Hp} {Q : VK} {E : XK} (hn : N.length = n) (h : spD K k (runF n b) vs H Q E) : tS K (fun cls d _ H => E cls d H) b { nx := fun _ H' => Q .non H', rt := Q } (L2.start N vs) H := by
  obtain ⟨ι, m, ws, hl, mo, r, p⟩ := h
  refine ⟨ι, startE n ws, m.openS, start_ok r hn, mo.openS, ?_⟩
  unfold runF at p
  have hb : ι.length ≤ m.cells.length := Nat.le_of_eq mo.len
  cases q : b (startE n ws) m.openS with
  | stuck => rw [q] at p; exact p
  | exc x e m1 =>
    rw [q] at p
    intro ι1 H1 σ1 cls d st mo1 eo1 xo
    obtain ⟨ι2, s2, m2, z⟩ := closeS_step (n0 := m.cells.length) (held := Wd.ltAll m.cells.length (x.fs.map (·.2))) mo1 st hb
    refine p ι2 H1 cls d s2 m2 ?_
    rcases z with z | ⟨z1, z2⟩
    · rw [z]; exact xo
    · rw [z2]; exact exOk_take xo z1
  | go fl e m1 =>
    rw [q] at p
    cases fl with
    | nx =>
      intro ι1 H1 σ1 st mo1 eo1
      obtain ⟨ι2, s2, m2, z⟩ := closeS_step (n0 := m.cells.length) (held := true) mo1 st hb
      exact p ι2 H1 .non s2 m2 (.d .non)
    | rt w =>
      intro ι1 H1 v st mo1 rw'
      obtain ⟨ι2, s2, m2, z⟩ := closeS_step (n0 := m.cells.length) (held := w.lt m.cells.length) mo1 st hb
      refine p ι2 H1 v s2 m2 ?_
      rcases z with z | ⟨z1, z2⟩
      · rw [z]; exact rw'
      · rw [z2]; exact rw'.take z1
    | bk => exact p.elim
    | ct => exact p.elim
/-- less is promised -/
theorem spD_imp {n : Nat} {F G : Fn} (h : ∀ ws m, ws.length = n → G ws m = .stuck ∨ F ws m = G ws m) {vs : List V} {H : Hp} {Q : VK} {E : XK} (p : spD K n G vs H Q E) : spD K n F vs H Q E := by
  obtain ⟨ι, m, ws, hl, mo, r, p⟩ := p
  refine ⟨ι, m, ws, hl, mo, r, ?_⟩
  rcases h ws m (r.length.trans hl) with z | z
  · rw [z] at p; exact p.elim
  · rw [z]; exact p
end
end DL
set_option Elab.async false
set_option linter.all false
set_option maxRecDepth 100000
set_option maxHeartbeats 2000000
namespace DL
open PySem PySem.Spec PyProof.Rows L2
def intO (C : Int → Int → Bool) (g : Int → Int → PyData) : Op2 := fun a b m => match a, b with
  | .d (.int i), .d (.int j) => if C i j = true then some (.d (g i j), m) else none
  | _, _ => none
def small64 (i : Int) : Bool := decide (-(2 ^ 64) < i ∧ i < 2 ^ 64)
def addO : Op2 := fun a b m => match a, b with
  | .d (.int i), .d (.int j) => some (.d (.int (i + j)), m)
  | .d (.str x), .d (.str y) => if x.length + y.length ≤ LIM then some (.d (.str (x ++ y)), m) else none
  | .ref n, .ref k => match m.cells[n]?, m.cells[k]? with
    | some (.lst xs), some (.lst ys) => if xs.length + ys.length ≤ LIM then some (.ref m.cells.length, m.push (.lst (xs ++ ys))) else none
    | _, _ => none
  | a, b => match tupOf a, tupOf b with
    | some xs, some ys => if xs.length + ys.length ≤ LIM then some (mkTup (xs ++ ys), m) else none
    | _, _ => none
def mulO : Op2 := fun a b m => match a, b with
  | .d (.int i), .d (.int j) => if (small64 i || small64 j) = true then some (.d (.int (i * j)), m) else none
  | .ref n, .d (.int k) => match m.cells[n]? with
    | some (.lst xs) => if (-(2 ^ 63) ≤ k ∧ k < 2 ^ 63) ∧ xs.length * k.toNat ≤ LIM then some (.ref m.cells.length, m.push (.lst (List.replicate k.toNat xs).flatten)) else none
    | _ => none
  | _, _ => none
def subO : Op2 := intO (fun _ _ => true) fun i j => .int (i - j)
def fdivO : Op2 := intO (fun _ j => decide (0 < j ∧ j < 1073741824)) fun i j => .int (i / j)
def modO : Op2 := intO (fun _ j => decide (0 < j)) fun i j => .int (i % j)
def powO : Op2 := intO (fun i j => decide (0 ≤ j ∧ j ≤ 1000000 ∧ i.natAbs < 2 ^ 64)) fun i j => .int (i ^ j.toNat)
def ltO : Op2 := intO (fun _ _ => true) fun i j => .bool (decide (i < j))
def leO : Op2 := intO (fun _ _ => true) fun i j => .bool (decide (i ≤ j))
def gtO : Op2 := intO (fun _ _ => true) fun i j => .bool (decide (j < i))
def geO : Op2 := intO (fun _ _ => true) fun i j => .bool (decide (j ≤ i))
section
variable {K : Kw} {W : L2.WX} {ι : List Addr} {H : Hp} {σ : L2.St} {m : Mm} {X : Cx}
theorem intO_ok {f : Value → Value → Sem Value} {C' : Int → Int → Prop} {C : Int → Int → Bool} {g : Int → Int → PyData} {g' : Int → Int → V} (h : OpR X f (rI C' g')) (hC : ∀ i j, C i j = true → C' i j) (hg : ∀ i j H, RelD X.KW H (g i j) (g' i j)) : OpR X f (rO X.KW (intO C g)) :=
  OpRimp h fun x y H Q ⟨ι, m, a, b, mo, ra, rb, p⟩ => by
    unfold intO at p
    split at p
    · rename_i i j
      by_cases hc : C i j = true
      · rw [if_pos hc] at p
        exact ⟨i, j, relW_int ra, relW_int rb, hC i j hc, post_ok p mo (.d (hg i j H))⟩
      · rw [if_neg hc] at p; exact p.elim
    · exact p.elim
theorem intO_ok0 {f : Value → Value → Sem Value} {g : Int → Int → PyData} {g' : Int → Int → V} (h : OpR X f (rI0 g')) (hg : ∀ i j H, RelD X.KW H (g i j) (g' i j)) : OpR X f (rO X.KW (intO (fun _ _ => true) g)) :=
  OpRimp h fun x y H Q ⟨ι, m, a, b, mo, ra, rb, p⟩ => by
    unfold intO at p
    split at p
    · rename_i i j
      rw [if_pos rfl] at p
      exact ⟨i, j, relW_int ra, relW_int rb, post_ok p mo (.d (hg i j H))⟩
    · exact p.elim
theorem o_sub : OpR X (binaryOp .Sub) (rO X.KW subO) := intO_ok0 op_sub fun _ _ _ => .int _
theorem o_fdiv : OpR X (binaryOp .FloorDiv) (rO X.KW fdivO) := intO_ok op_fdiv (fun _ j h => show 0 < j ∧ j < 1073741824 from of_decide_eq_true h) fun _ _ _ => .int _
theorem o_mod : OpR X (binaryOp .Mod) (rO X.KW modO) := intO_ok op_mod (fun _ _ h => of_decide_eq_true h) fun _ _ _ => .int _
theorem o_pow : OpR X (binaryOp .Pow) (rO X.KW powO) := intO_ok op_pow (fun i j h => show 0 ≤ j ∧ j ≤ 1000000 ∧ i.natAbs < 2 ^ 64 from of_decide_eq_true h) fun _ _ _ => .int _
theorem o_lt : OpR X (compareOp .Lt) (rO X.KW ltO) := intO_ok0 op_lt fun _ _ _ => .bl _
theorem o_le : OpR X (compareOp .LtE) (rO X.KW leO) := intO_ok0 op_le fun _ _ _ => .bl _
theorem o_gt : OpR X (compareOp .Gt) (rO X.KW gtO) := intO_ok0 op_gt fun _ _ _ => .bl _
theorem o_ge : OpR X (compareOp .GtE) (rO X.KW geO) := intO_ok0 op_ge fun _ _ _ => .bl _
/-- () + t is t -/
theorem op_catN0 : OpR X (binaryOp .Add) (fun x y H Q => ∃ a b ys, x = .ref a ∧ y = .ref b ∧ SqT X.KW H a [] ∧ SqT X.KW H b ys ∧ Q (.ref b) H) := by
  intro pins s σ H x y v u Q I rx ry h
  obtain ⟨a, b, ys, rfl, rfl, ha, hb, q⟩ := h
  cases rx
  cases ry
  obtain ⟨its, r1, p1, _⟩ := I.tuple ha
  obtain ⟨its2, r2, p2, _⟩ := I.tuple hb
  cases r1
  obtain ⟨⟨cls, dd, data, sl⟩, ho, hc, n, hd⟩ := id p1
  obtain ⟨⟨cls2, dd2, data2, sl2⟩, ho2, hc2, n2, hd2⟩ := id p2
  simp only at hc hd hc2 hd2
  subst hc hd hc2 hd2
  exact concat_meets ⟨_, ho, rfl⟩ ⟨_, ho2, rfl⟩ noFill_tuple_add seq_tuple_add PySem.F.slot_tuple_add PySem.F.entry_tuple_add (PySem.F.args_tuple_add_2 _ _)
    (tuple_addW0 a b ([] : List Value).toArray its2.toArray n n2 dd dd2 sl sl2 (by simp)) ⟨ho, ho2, ⟨.ref b, H, I, rfl, q⟩⟩
theorem o_add : OpR X (binaryOp .Add) (rO X.KW addO) := by
  refine OpRimp (OpR.or op_add (OpR.or op_add_str (OpR.or op_cat (OpR.or op_catN op_catN0)))) fun x y H Q ⟨ι, m, a, b, mo, ra, rb, p⟩ => ?_
  unfold addO at p
  split at p
  · rename_i i j
    exact .inl ⟨i, j, relW_int ra, relW_int rb, post_ok p mo (.d (.int _))⟩
  · rename_i x' y'
    split at p
    · exact .inr (.inl ⟨x', y', relW_str ra, relW_str rb, by rw [← LIM_eq]; assumption, post_ok p mo (.d (.str _))⟩)
    · exact p.elim
  · rename_i n k
    split at p
    · rename_i xs ys h1 h2
      split at p
      · rename_i hl
        obtain ⟨a1, rfl, e1⟩ := relW_ref ra
        obtain ⟨b1, rfl, e2⟩ := relW_ref rb
        obtain ⟨vs, q1, r1⟩ := mo.cell _ _ _ e1 h1
        obtain ⟨us, q2, r2⟩ := mo.cell _ _ _ e2 h2
        refine .inr (.inr (.inl ⟨a1, b1, vs, us, rfl, rfl, q1, q2, by rw [← r1.length, ← r2.length, ← LIM_eq]; exact hl, fun q hq => ?_⟩))
        obtain ⟨c1, c2⟩ := cell_new mo hq (r1.append r2)
        exact p _ _ _ (stp_new hq) c1 c2
      · exact p.elim
    · exact p.elim
  · split at p
    · rename_i xs ys h1 h2
      split at p
      · rename_i hl
        obtain ⟨a1, vs, rfl, q1, r1⟩ := tupOf_okP h1 ra
        obtain ⟨b1, us, rfl, q2, r2⟩ := tupOf_okP h2 rb
        by_cases hv : vs = []
        · subst hv
          cases r1
          refine .inr (.inr (.inr (.inr ⟨a1, b1, us, rfl, rfl, q1.1, q2.1, post_ok p mo (mkTup_ok q2 r2)⟩)))
        · refine .inr (.inr (.inr (.inl ⟨a1, b1, vs, us, rfl, rfl, q1.1, q2.1, hv, by rw [← r1.length, ← r2.length, ← LIM_eq]; exact hl, fun e => ?_, fun e q o hq ho => ?_⟩)))
          · subst e
            cases r2
            rw [List.append_nil] at p
            exact post_ok p mo (mkTup_ok q1 r1)
          · exact p ι _ _ (stp_tup hq) (mo.tup hq) (mkTup_ok (SqP.new ho) ((r1.append r2).step mo.apart (stp_tup hq)))
      · exact p.elim
    · exact p.elim
theorem o_mul : OpR X (binaryOp .Mult) (rO X.KW mulO) := by
  refine OpRimp (OpR.or op_mul op_rep) fun x y H Q ⟨ι, m, a, b, mo, ra, rb, p⟩ => ?_
  unfold mulO at p
  split at p
  · rename_i i j
    split at p
    · rename_i hc
      refine .inl ⟨i, j, relW_int ra, relW_int rb, ?_, post_ok p mo (.d (.int _))⟩
      rw [Bool.or_eq_true] at hc
      exact hc.elim (fun h => .inl (of_decide_eq_true h)) (fun h => .inr (of_decide_eq_true h))
    · exact p.elim
  · rename_i n k
    split at p
    · rename_i xs h1
      split at p
      · rename_i hl
        obtain ⟨a1, rfl, e1⟩ := relW_ref ra
        obtain ⟨vs, q1, r1⟩ := mo.cell _ _ _ e1 h1
        refine .inr ⟨a1, k, vs, rfl, relW_int rb, q1, hl.1.1, hl.1.2, by rw [← r1.length, ← LIM_eq]; exact hl.2, fun q hq => ?_⟩
        have rr : ∀ j : Nat, RelWs X.KW ι H (List.replicate j xs).flatten (List.replicate j vs).flatten := by
          intro j
          induction j with
          | zero => exact .nil
          | succ j ih => simp only [List.replicate_succ, List.flatten_cons]; exact r1.append ih
        obtain ⟨c1, c2⟩ := cell_new mo hq (rr k.toNat)
        exact p _ _ _ (stp_new hq) c1 c2
      · exact p.elim
    · exact p.elim
  · exact p.elim
def seqO {α : Type} : List (Option α) → Option (List α)
  | [] => some []
  | some x :: r => (seqO r).map (x :: ·)
  | none :: _ => none
def toP (m : Mm) : Nat → Wd → Option PyData
  | _, .d x => some x
  | k + 1, .ref n => match m.cells[n]? with
    | some (.lst xs) => (seqO (xs.map (toP m k))).map .list
    | _ => none
  | k + 1, .tup xs => (seqO (xs.map (toP m k))).map .tuple
  | k + 1, .rol xs => (seqO (xs.map (toP m k))).map .list
  | _, _ => none
theorem dp_of : ∀ {d : PyData} {v : V}, RelD K H d v → Dp K H v d := by
  intro d v h
  exact RelD.rec (motive_1 := fun d v _ => Dp K H v d) (motive_2 := fun ds vs _ => DpAll K H vs ds) .non (fun b => .bl b) (fun i => .int i) (fun x => .str x) (fun h _ ih => .tup h.1 ih) .nil (fun _ _ h1 h2 => .cons h1 h2) h
theorem toP_ok (mo : MemOk K ι m H) : ∀ (k : Nat) {w : Wd} {v : V} {d : PyData}, RelW K ι H w v → toP m k w = some d → Dp K H v d := by
  intro k
  induction k with
  | zero =>
    intro w v d r e
    cases r with
    | d r => cases e; exact dp_of r
    | _ => cases e
  | succ k ih =>
    have all : ∀ {ws : List Wd} {vs : List V} {ds : List PyData}, RelWs K ι H ws vs → seqO (ws.map (toP m k)) = some ds → DpAll K H vs ds := by
      intro ws
      induction ws with
      | nil => intro vs ds r e; cases r; cases e; exact .nil
      | cons w ws ihw =>
        intro vs ds r e
        cases r with
        | cons ra rr =>
          rw [List.map_cons] at e
          cases q : toP m k w with
          | none => rw [q] at e; cases e
          | some d =>
            rw [q] at e
            have e' : (seqO (ws.map (toP m k))).map (d :: ·) = some ds := e
            obtain ⟨es, q1, q2⟩ := Option.map_eq_some_iff.mp e'
            subst q2
            exact .cons (ih ra q) (ihw rr q1)
    intro w v d r e
    cases r with
    | d r => cases e; exact dp_of r
    | ref h =>
      rename_i n a
      have e' : (match m.cells[n]? with
        | some (.lst xs) => (seqO (xs.map (toP m k))).map .list
        | _ => none) = some d := e
      split at e'
      · rename_i xs hc
        obtain ⟨es, q1, q2⟩ := Option.map_eq_some_iff.mp e'
        subst q2
        obtain ⟨vs, q3, r3⟩ := mo.cell _ _ _ h hc
        exact .lst (SqL.of q3) (all r3 q1)
      · cases e'
    | tup h hs =>
      obtain ⟨es, q1, q2⟩ := Option.map_eq_some_iff.mp (show (seqO (_)).map PyData.tuple = some d from e)
      subst q2
      exact .tup h.1 (all hs q1)
    | rol h hs =>
      obtain ⟨es, q1, q2⟩ := Option.map_eq_some_iff.mp (show (seqO (_)).map PyData.list = some d from e)
      subst q2
      exact .lst h.sqL (all hs q1)
    | v x => cases e
/-- values without depth, whose texts need no look -/
def scalD : PyData → PyData → Bool
  | .none, .none => true | .none, .int _ => true | .int _, .none => true | .none, .bool _ => true | .bool _, .none => true | .none, .str _ => true | .str _, .none => true
  | .int _, .int _ => true | .bool _, .bool _ => true | .str _, .str _ => true
  | .int _, .str _ => true | .str _, .int _ => true | .bool _, .str _ => true | .str _, .bool _ => true
  | _, _ => false
def eqB (a b : Wd) (m : Mm) : Option Bool := match toP m 64 a, toP m 64 b with
  | some x, some y => if (scalD x y || (SeqAt.shaped x && SeqAt.shaped y)) = true then some (PyData.eqv x y) else none
  | _, _ => none
def eqO : Op2 := fun a b m => match eqB a b m with
  | some k => some (.d (.bool k), m)
  | none => none
def neO : Op2 := fun a b m => match eqB a b m with
  | some k => some (.d (.bool (!k)), m)
  | none => none
theorem scal_of {x y : PyData} {v u : V} (h : scalD x y = true) (r1 : RelD K H x v) (r2 : RelD K H y u) : scal v u = true ∧ decide (v = u) = PyData.eqv x y := by
  cases r1 <;> cases r2 <;> first | (cases h; done) | (refine ⟨rfl, ?_⟩; simp [PyData.eqv]; done) | (refine ⟨rfl, ?_⟩; simp [PyData.eqv]; rw [Bool.eq_iff_iff]; simp)
theorem toP_scal {x y : PyData} {w : Wd} {k : Nat} (h : scalD x y = true ∨ scalD y x = true) (e : toP m k w = some x) : w = .d x := by
  cases w with
  | d z => cases k <;> (cases e; rfl)
  | ref n =>
    exfalso
    cases k with
    | zero => cases e
    | succ k =>
      have e' : (match m.cells[n]? with
        | some (.lst xs) => (seqO (xs.map (toP m k))).map .list
        | _ => none) = some x := e
      split at e'
      · obtain ⟨es, q1, q2⟩ := Option.map_eq_some_iff.mp e'
        subst q2
        rcases h with h | h <;> cases y <;> cases h
      · cases e'
  | tup xs =>
    exfalso
    cases k with
    | zero => cases e
    | succ k =>
      obtain ⟨es, q1, q2⟩ := Option.map_eq_some_iff.mp (show (seqO (_)).map PyData.tuple = some x from e)
      subst q2
      rcases h with h | h <;> cases y <;> cases h
  | rol xs =>
    exfalso
    cases k with
    | zero => cases e
    | succ k =>
      obtain ⟨es, q1, q2⟩ := Option.map_eq_some_iff.mp (show (seqO (_)).map PyData.list = some x from e)
      subst q2
      rcases h with h | h <;> cases y <;> cases h
  | v z => exfalso; cases k <;> cases e
theorem o_eq (hu : X.A.units + 64 < cLine) : OpR X (compareOp .Eq) (rO X.KW eqO) := by
  refine OpRimp (OpR.or op_eq (op_eqD hu)) fun x y H Q ⟨ι, m, a, b, mo, ra, rb, p⟩ => ?_
  unfold eqO eqB at p
  cases q1 : toP m 64 a with
  | none => rw [q1] at p; exact p.elim
  | some d =>
    cases q2 : toP m 64 b with
    | none => rw [q1, q2] at p; exact p.elim
    | some e =>
      rw [q1, q2] at p
      simp only [] at p
      by_cases hs : scalD d e = true
      · rw [if_pos (by rw [hs]; rfl)] at p
        have ea := toP_scal (.inl hs) q1
        have eb := toP_scal (.inr hs) q2
        subst ea; subst eb
        obtain ⟨h1, h2⟩ := scal_of hs ra.d' rb.d'
        exact .inl ⟨h1, by rw [h2]; exact post_ok p mo (.d (.bl _))⟩
      · by_cases h : (scalD d e || (SeqAt.shaped d && SeqAt.shaped e)) = true
        · rw [if_pos h] at p
          rw [Bool.or_eq_true, Bool.and_eq_true] at h
          rcases h with h | ⟨h1, h2⟩
          · exact absurd h hs
          · exact .inr ⟨d, e, toP_ok mo 64 ra q1, toP_ok mo 64 rb q2, h1, h2, post_ok p mo (.d (.bl _))⟩
        · rw [if_neg h] at p; exact p.elim
theorem o_ne (hu : X.A.units + 64 < cLine) : OpR X (compareOp .NotEq) (rO X.KW neO) := by
  refine OpRimp (OpR.or op_ne (op_neD hu)) fun x y H Q ⟨ι, m, a, b, mo, ra, rb, p⟩ => ?_
  unfold neO eqB at p
  cases q1 : toP m 64 a with
  | none => rw [q1] at p; exact p.elim
  | some d =>
    cases q2 : toP m 64 b with
    | none => rw [q1, q2] at p; exact p.elim
    | some e =>
      rw [q1, q2] at p
      simp only [] at p
      by_cases hs : scalD d e = true
      · rw [if_pos (by rw [hs]; rfl)] at p
        have ea := toP_scal (.inl hs) q1
        have eb := toP_scal (.inr hs) q2
        subst ea; subst eb
        obtain ⟨h1, h2⟩ := scal_of hs ra.d' rb.d'
        exact .inl ⟨h1, by rw [h2]; exact post_ok p mo (.d (.bl _))⟩
      · by_cases h : (scalD d e || (SeqAt.shaped d && SeqAt.shaped e)) = true
        · rw [if_pos h] at p
          rw [Bool.or_eq_true, Bool.and_eq_true] at h
          rcases h with h | ⟨h1, h2⟩
          · exact absurd h hs
          · exact .inr ⟨d, e, toP_ok mo 64 ra q1, toP_ok mo 64 rb q2, h1, h2, post_ok p mo (.d (.bl _))⟩
        · rw [if_neg h] at p; exact p.elim
end
end DL
set_option Elab.async false
set_option linter.all false
set_option maxRecDepth 100000
set_option maxHeartbeats 2000000
namespace DL
open PySem PySem.Spec PyProof.Rows L2
/-- the items of a list or tuple -/
def seqOf (m : Mm) : Wd → Option (List Wd)
  | .d (.tuple ds) => some (ds.map .d)
  | .tup ws => some ws
  | .rol ws => some ws
  | .ref n => match m.cells[n]? with
    | some (.lst xs) => some xs
    | _ => none
  | _ => none
def lenO : OpN := fun ws m => match ws with
  | [.d (.str x)] => if x.length ≤ LIM then some (.d (.int x.length), m) else none
  | [.ref n] => match m.cells[n]? with
    | some (.lst xs) => some (.d (.int xs.length), m)
    | some (.dct kvs) => some (.d (.int kvs.length), m)
    | some (.ndc kvs) => some (.d (.int kvs.length), m)
    | some (.gdc kvs) => some (.d (.int kvs.length), m)
    | _ => none
  | [w] => match seqOf m w with
    | some xs => some (.d (.int xs.length), m)
    | none => none
  | _ => none
def flatD : PyData → Bool
  | .none => true | .bool _ => true | .int _ => true | .str _ => true
  | _ => false
def flatW : Wd → Bool
  | .d x => flatD x
  | _ => false
def eqvW : Wd → Wd → Bool
  | .d x, .d y => PyData.eqv x y
  | _, _ => false
/-- x in y -/
def inB (x y : Wd) (m : Mm) : Option Bool := match x, y with
  | .d (.str a), .d (.str z) => match a.cps.toList with
    | [c] => some (decide (c ∈ z.cps.toList))
    | _ => none
  | _, _ => match seqOf m y with
    | some ys => if (flatW x && ys.all flatW) = true then some (ys.any fun z => eqvW z x) else none
    | none => none
def inO : Op2 := fun x y m => match inB x y m with
  | some b => some (.d (.bool b), m)
  | none => none
def niO : Op2 := fun x y m => match inB x y m with
  | some b => some (.d (.bool (!b)), m)
  | none => none
def isNoneW : Wd → Option Bool
  | .d .none => some true
  | .d _ => some false
  | .ref _ => some false
  | .tup _ => some false
  | .rol _ => some false
  | .v _ => none
def isNO : Op2 := fun x y m => match y with
  | .d .none => match isNoneW x with
    | some b => some (.d (.bool b), m)
    | none => none
  | _ => none
def nnO : Op2 := fun x y m => match y with
  | .d .none => match isNoneW x with
    | some b => some (.d (.bool (!b)), m)
    | none => none
  | _ => none
/-- an item -/
def ixO : Op2 := fun x y m => match x, y with
  | .d (.str z), .d (.int i) => if z.length ≤ LIM then (match atI z.cps.toList i with
    | some c => some (.d (.str ⟨#[c]⟩), m)
    | none => none) else none
  | x, .d (.int i) => match seqOf m x with
    | some xs => match atI xs i with
      | some w => some (w, m)
      | none => none
    | none => none
  | _, _ => none
/-- a part -/
def cutW (xs : List Wd) (lo hi : Option Int) : List Wd := (xs.drop (HT.sIx xs.length 0 lo)).take (HT.sIx xs.length xs.length hi - HT.sIx xs.length 0 lo)
def slO (x : Wd) (lo hi : Option Int) (m : Mm) : Option (Wd × Mm) := match x with
  | .d (.str z) => if z.length ≤ LIM then some (.d (.str (cutS z lo hi)), m) else none
  | .ref n => match m.cells[n]? with
    | some (.lst xs) => some (.ref m.cells.length, m.push (.lst (cutW xs lo hi)))
    | _ => none
  | .rol xs => some (.ref m.cells.length, m.push (.lst (cutW xs lo hi)))
  | x => match tupOf x with
    | some xs => some (mkTup (cutW xs lo hi), m)
    | none => none
/-- a slice's bound -/
abbrev Eo := Em (Option Int)
def oNone : Eo := fun _ m => .ok none m
def oSome (f : Em Wd) : Eo := fun env m => (f env m).bind fun w m => match w with
  | .d (.int i) => .ok (some i) m
  | _ => .stuck
def eSl (f : Em Wd) (lo hi : Eo) : Em Wd := fun env m => (f env m).bind fun w m => (lo env m).bind fun l m => (hi env m).bind fun h m => Rs.of (slO w l h m)
/-- calls -/
def absO : OpN := fun ws m => match ws with
  | [.d (.int i)] => some (.d (.int (if i < 0 then -i else i)), m)
  | _ => none
def intO1 : OpN := fun ws m => match ws with
  | [.d (.int i)] => some (.d (.int i), m)
  | [.d (.bool b)] => some (.d (.int (if b then 1 else 0)), m)
  | _ => none
def listO : OpN := fun ws m => match ws with
  | [w] => match seqOf m w with
    | some xs => some (.ref m.cells.length, m.push (.lst xs))
    | none => none
  | _ => none
def tupleO : OpN := fun ws m => match ws with
  | [w] => match seqOf m w with
    | some xs => some (mkTup xs, m)
    | none => none
  | _ => none
def boolsW : List Wd → Option (List Bool)
  | [] => some []
  | .d (.bool b) :: r => (boolsW r).map (b :: ·)
  | _ :: _ => none
def allO : OpN := fun ws m => match ws with
  | [.ref n] => match m.cells[n]? with
    | some (.lst xs) => match boolsW xs with
      | some bs => some (.d (.bool (bs.all id)), m)
      | none => none
    | _ => none
  | _ => none
/-- isinstance of built-in types -/
def tyName (m : Mm) : Wd → Option String
  | .d .none => some "NoneType" | .d (.bool _) => some "bool" | .d (.int _) => some "int" | .d (.str _) => some "str" | .d (.tuple _) => some "tuple"
  | .tup _ => some "tuple" | .rol _ => some "list"
  | .ref n => match m.cells[n]? with
    | some (.lst _) => some "list"
    | some (.dct _) => some "dict"
    | _ => none
  | _ => none
def isT (a T : String) : Bool := decide (a = T) || (decide (a = "bool") && decide (T = "int"))
def isiO (Ts : List String) (w : Wd) (m : Mm) : Option (Wd × Mm) := match tyName m w with
  | some a => some (.d (.bool (Ts.any (isT a))), m)
  | none => none
def eIsi (Ts : List String) (f : Em Wd) : Em Wd := e1 (isiO Ts) f
/-- methods of lists -/
def appO : Wd → List Wd → Mm → Option (Wd × Mm) := fun x ws m => match x, ws with
  | .ref n, [w] => match m.cells[n]? with
    | some (.lst xs) => if xs.length < LIM then some (.d .none, m.put n (.lst (xs ++ [w])) (w.lt 0)) else none
    | _ => none
  | _, _ => none
def extO : Wd → List Wd → Mm → Option (Wd × Mm) := fun x ws m => match x, ws with
  | .ref n, [.ref k] => match m.cells[n]?, m.cells[k]? with
    | some (.lst xs), some (.lst ys) => if xs.length + ys.length ≤ LIM then some (.d .none, m.put n (.lst (xs ++ ys)) (Wd.ltAll 0 ys)) else none
    | _, _ => none
  | _, _ => none
def eM (g : Wd → List Wd → Mm → Option (Wd × Mm)) (f : Em Wd) (fa : Em (List Wd)) : Em Wd := fun env m => (f env m).bind fun w m => match w with
  | .ref n => match m.cells[n]? with
    | some (.lst _) => (fa env m).bind fun ws m => Rs.of (g w ws m)
    | _ => .stuck
  | _ => .stuck
/-- x[i] = v, x[i] op= v -/
def setO (x i v : Wd) (m : Mm) : Option Mm := match x, i with
  | .ref n, .d (.int k) => match m.cells[n]? with
    | some (.lst xs) => match ixN xs.length k with
      | some j => some (m.put n (.lst (xs.set j v)) (v.lt 0))
      | none => none
    | _ => none
  | _, _ => none
def sSub (fo fi fv : Em Wd) : Sm := fun env m => rs (fv env m) env fun v m => rs (fo env m) env fun o m => rs (fi env m) env fun i m => match setO o i v m with
  | some m => .go .nx env m
  | none => .stuck
def sAug (i : Nat) (g : Op2) (f : Em Wd) : Sm := fun env m => match env[i]? with
  | some (some x) => rs (f env m) env fun y m => rs (Rs.of (g x y m)) env fun z m => .go .nx (env.set i (some z)) m
  | _ => .stuck
section
variable {K : Kw} {W : L2.WX} {ι : List Addr} {H : Hp} {σ : L2.St} {m : Mm} {X : Cx}
theorem seqOf_okP {w : Wd} {ws : List Wd} {v : V} (mo : MemOk K ι m H) (e : seqOf m w = some ws) (r : RelW K ι H w v) : ∃ a vs, v = .ref a ∧ (SqL K H a vs ∨ SqP K H a vs) ∧ RelWs K ι H ws vs := by
  cases r with
  | d h =>
    cases h with
    | tup h hs => cases e; exact ⟨_, _, rfl, .inr h, hs.ws⟩
    | _ => cases e
  | tup h hs => cases e; exact ⟨_, _, rfl, .inr h, hs⟩
  | rol h hs => cases e; exact ⟨_, _, rfl, .inl h.sqL, hs⟩
  | v _ => cases e
  | ref h =>
    simp only [seqOf] at e
    split at e
    · rename_i xs hc
      cases e
      obtain ⟨vs, q, r⟩ := mo.cell _ _ _ h hc
      exact ⟨_, vs, rfl, .inl (SqL.of q), r⟩
    · cases e
theorem seqOf_ok {w : Wd} {ws : List Wd} {v : V} (mo : MemOk K ι m H) (e : seqOf m w = some ws) (r : RelW K ι H w v) : ∃ a vs, v = .ref a ∧ (SqL K H a vs ∨ SqT K H a vs) ∧ RelWs K ι H ws vs :=
  let ⟨a, vs, h1, h2, h3⟩ := seqOf_okP mo e r
  ⟨a, vs, h1, h2.imp id (·.1), h3⟩
theorem vals_one {ws : List V} {w : Wd} (h : RelWs K ι H [w] ws) : ∃ v, ws = [v] ∧ RelW K ι H w v := by
  cases h with
  | cons h hs => cases hs; exact ⟨_, rfl, h⟩
theorem call_len_ndc : CallR X (.builtin "len") (fun xs H Q => ∃ (a : Addr) (o : Obj) (es : Array DictEntry) (ep : Nat), xs = [.ref a] ∧ (a == sysModules) = false ∧ H a = some (.ext fun h => h.get? a = some o) ∧ o.ExactDict ∧ o.data = .dict es ep ∧ es.size ≤ sizeLine ∧ Q (.int es.size) H) := by
  intro pins s σ H xs us Q I r h
  obtain ⟨a, o, es, ep, rfl, h0, e, h1, h2, hz, q⟩ := h
  rw [Vals.ref1 r]
  have ok := (I.hok a _ e).1
  have hr : s.heap.DictRaw a es ep := ⟨o, ok, h1, h2⟩
  exact PyProof.Rows.call_len_slot (n := es.size) hr.typeIs PySem.F.slot_dict_len (fun Q' hq => call_len_raw h0 hr hq) (by omega) (by rw [sizeLine_eq] at hz; omega) ⟨.int es.size, H, I.tok _, ⟨_, rfl⟩, q⟩
theorem nv_len0 : ∀ {kvs : List (PyData × Wd)} {xs : List (NestedKey × Addr × Value)}, NvOk K ι H kvs xs → kvs.length = xs.length
  | [], [], _ => rfl
  | (_, _) :: _, (_, _, _) :: _, ⟨_, _, _, h⟩ => congrArg (· + 1) (nv_len0 h)
  | [], _ :: _, h => h.elim
  | _ :: _, [], h => h.elim
theorem gv_len0 : ∀ {kvs : List (PyData × Wd)} {xs : List (NestedKey × Value × Value)}, GvOk K ι H kvs xs → kvs.length = xs.length
  | [], [], _ => rfl
  | (_, _) :: _, (_, _, _) :: _, ⟨_, _, _, h⟩ => congrArg (· + 1) (gv_len0 h)
  | [], _ :: _, h => h.elim
  | _ :: _, [], h => h.elim
theorem c_len : CallR X (.builtin "len") (rON X.KW lenO) := by
  refine CallRimp (CallR.or call_len (CallR.or call_lenD call_len_ndc)) fun xs H Q ⟨ι, m, ws, mo, ra, p⟩ => ?_
  unfold lenO at p
  split at p
  · rename_i x
    split at p
    · rename_i hl
      obtain ⟨v, rfl, r⟩ := vals_one ra
      exact .inl ⟨_, x.length, rfl, by rw [relW_str r]; exact ⟨by rw [← LIM_eq]; exact hl, rfl⟩, post_ok p mo (.d (.int _))⟩
    · exact p.elim
  · rename_i n
    split at p
    · rename_i xs hc
      obtain ⟨v, rfl, r⟩ := vals_one ra
      obtain ⟨a, rfl, e⟩ := relW_ref r
      obtain ⟨vs, q, rv⟩ := mo.cell _ _ _ e hc
      exact .inl ⟨_, vs.length, rfl, .inl ⟨vs, SqL.of q, rfl⟩, by rw [← rv.length]; exact post_ok p mo (.d (.int _))⟩
    · rename_i kvs hc
      obtain ⟨v, rfl, r⟩ := vals_one ra
      obtain ⟨a, rfl, e⟩ := relW_ref r
      obtain ⟨ks, q, rv⟩ := mo.cell _ _ _ e hc
      have len : kvs.length = ks.length := by
        clear p hc q
        induction kvs generalizing ks with
        | nil => cases ks with
          | nil => rfl
          | cons _ _ => exact rv.elim
        | cons k kvs ih => cases ks with
          | nil => obtain ⟨_, _⟩ := k; exact rv.elim
          | cons _ ks => obtain ⟨_, _⟩ := k; exact congrArg (· + 1) (ih ks rv.2.2)
      exact .inr (.inl ⟨a, ks, rfl, q, by rw [← len]; exact post_ok p mo (.d (.int _))⟩)
    · rename_i kvs hc
      obtain ⟨v, rfl, r⟩ := vals_one ra
      obtain ⟨a, rfl, e⟩ := relW_ref r
      obtain ⟨h0, o, es, ep, xs, q, h1, h2, h3, h4, h5, nv⟩ := mo.cell _ _ _ e hc
      have hl : es.size = kvs.length := by rw [nv_len0 nv, ← Array.length_toList, h3, List.length_map]
      exact .inr (.inr ⟨a, o, es, ep, rfl, h0, q, h1, h2, by rw [hl, nv_len0 nv]; exact h5, by rw [hl]; exact post_ok p mo (.d (.int _))⟩)
    · rename_i kvs hc
      obtain ⟨v, rfl, r⟩ := vals_one ra
      obtain ⟨a, rfl, e⟩ := relW_ref r
      obtain ⟨h0, o, es, xs, q, h1, h2, h3, h4, h5, nv⟩ := mo.cell _ _ _ e hc
      have hl : es.size = kvs.length := by rw [gv_len0 nv, ← Array.length_toList, h3, List.length_map]
      exact .inr (.inr ⟨a, o, es, _, rfl, h0, q, h1, h2, by rw [hl, gv_len0 nv]; exact h5, by rw [hl]; exact post_ok p mo (.d (.int _))⟩)
    · exact p.elim
  · rename_i w _ _
    split at p
    · rename_i xs e
      obtain ⟨v, rfl, r⟩ := vals_one ra
      obtain ⟨a, vs, rfl, h, rv⟩ := seqOf_ok mo e r
      refine .inl ⟨_, vs.length, rfl, ?_, by rw [← rv.length]; exact post_ok p mo (.d (.int _))⟩
      rcases h with h | h
      · exact .inl ⟨vs, h, rfl⟩
      · exact .inr ⟨vs, h, rfl⟩
    · exact p.elim
  · exact p.elim
theorem flatV_of {x : PyData} {v : V} (r : RelD K H x v) (h : flatD x = true) : flatV v = true := by
  cases r <;> first | rfl | cases h
theorem eqV_of {x y : PyData} {v u : V} (r : RelD K H x v) (r' : RelD K H y u) (h : flatD x = true) (h' : flatD y = true) : eqV v u = PyData.eqv x y := by
  cases r <;> cases r' <;> first | rfl | (cases h; done) | (cases h'; done)
theorem inV_of {x : PyData} {v : V} (r : RelD K H x v) (hx : flatD x = true) : ∀ {ys : List Wd} {vs : List V}, RelWs K ι H ys vs → ys.all flatW = true → vs.all flatV = true ∧ inV v vs = ys.any (fun z => eqvW z (.d x))
  | _, _, .nil, _ => ⟨rfl, rfl⟩
  | _, _, .cons (w := w) ra rr, h => by
    rw [List.all_cons, Bool.and_eq_true] at h
    obtain ⟨h1, h2⟩ := inV_of r hx rr h.2
    cases ra with
    | d rd =>
      refine ⟨by rw [List.all_cons, flatV_of rd h.1, h1]; rfl, ?_⟩
      show (eqV _ v || inV v _) = (eqvW _ _ || _)
      rw [h2, eqV_of rd r h.1 hx]; rfl
    | ref _ => cases h.1
    | tup _ _ => cases h.1
    | rol _ _ => cases h.1
    | v _ => cases h.1
theorem inB_ok {x y : Wd} {b : Bool} {v u : V} (mo : MemOk K ι m H) (rx : RelW K ι H x v) (ry : RelW K ι H y u) (h : inB x y m = some b) : (∃ (c : Nat) (z : Str), v = .str ⟨#[c]⟩ ∧ u = .str z ∧ b = decide (c ∈ z.cps.toList)) ∨
    ∃ p xs, u = .ref p ∧ (SqL K H p xs ∨ SqT K H p xs) ∧ flatV v = true ∧ xs.all flatV = true ∧ b = inV v xs := by
  unfold inB at h
  split at h
  · rename_i a z
    split at h
    · rename_i c e
      cases h
      refine .inl ⟨c, z, ?_, relW_str ry, rfl⟩
      rw [relW_str rx]
      congr 1
      cases a with
      | mk cps => rw [show cps = #[c] from by rw [← Array.toList_inj]; exact e]
    · cases h
  · split at h
    · rename_i ys e
      split at h
      · rename_i hf
        cases h
        rw [Bool.and_eq_true] at hf
        obtain ⟨a, vs, rfl, h1, rv⟩ := seqOf_ok mo e ry
        cases x with
        | d x =>
          obtain ⟨h2, h3⟩ := inV_of rx.d' hf.1 rv hf.2
          exact .inr ⟨a, vs, rfl, h1, flatV_of rx.d' hf.1, h2, h3.symm⟩
        | ref _ => cases hf.1
        | tup _ => cases hf.1
        | rol _ => cases hf.1
        | v _ => cases hf.1
      · cases h
    · cases h
theorem o_in : OpR X (compareOp .In) (rO X.KW inO) := by
  refine OpRimp (OpR.or op_in_sign op_in_seq) fun x y H Q ⟨ι, m, a, b, mo, ra, rb, p⟩ => ?_
  unfold inO at p
  split at p
  · rename_i k hk
    rcases inB_ok mo ra rb hk with ⟨c, z, e1, e2, e3⟩ | ⟨q, xs, e1, h1, h2, h3, e2⟩
    · exact .inl ⟨c, z, e1, e2, by rw [← e3]; exact post_ok p mo (.d (.bl _))⟩
    · exact .inr ⟨q, xs, e1, h1, h2, h3, by rw [if_neg (by decide), ← e2]; exact post_ok p mo (.d (.bl _))⟩
  · exact p.elim
theorem o_ni : OpR X (compareOp .NotIn) (rO X.KW niO) := by
  refine OpRimp (OpR.or op_notIn_sign op_notIn_seq) fun x y H Q ⟨ι, m, a, b, mo, ra, rb, p⟩ => ?_
  unfold niO at p
  split at p
  · rename_i k hk
    rcases inB_ok mo ra rb hk with ⟨c, z, e1, e2, e3⟩ | ⟨q, xs, e1, h1, h2, h3, e2⟩
    · exact .inl ⟨c, z, e1, e2, by rw [← e3]; exact post_ok p mo (.d (.bl _))⟩
    · exact .inr ⟨q, xs, e1, h1, h2, h3, by rw [if_pos rfl, ← e2]; exact post_ok p mo (.d (.bl _))⟩
  · exact p.elim
theorem isNone_ok {x : Wd} {v : V} {b : Bool} (r : RelW K ι H x v) (h : isNoneW x = some b) : decide (v = .non) = b := by
  cases r with
  | d r => cases r <;> (cases h; rfl)
  | ref _ => cases h; rfl
  | tup _ _ => cases h; rfl
  | rol _ _ => cases h; rfl
  | v _ => cases h
theorem o_isN : OpR X (compareOp .Is) (rO X.KW isNO) := by
  refine OpRimp op_isN fun x y H Q ⟨ι, m, a, b, mo, ra, rb, p⟩ => ?_
  unfold isNO at p
  split at p
  · split at p
    · rename_i k hk
      exact ⟨relW_non rb, by rw [isNone_ok ra hk]; exact post_ok p mo (.d (.bl _))⟩
    · exact p.elim
  · exact p.elim
theorem o_nn : OpR X (compareOp .IsNot) (rO X.KW nnO) := by
  refine OpRimp op_notN fun x y H Q ⟨ι, m, a, b, mo, ra, rb, p⟩ => ?_
  unfold nnO at p
  split at p
  · split at p
    · rename_i k hk
      exact ⟨relW_non rb, by rw [isNone_ok ra hk]; exact post_ok p mo (.d (.bl _))⟩
    · exact p.elim
  · exact p.elim
theorem atI_ok {xs : List Wd} {vs : List V} {i : Int} {w : Wd} (r : RelWs K ι H xs vs) (h : atI xs i = some w) : ∃ v, atI vs i = some v ∧ RelW K ι H w v := by
  unfold atI at h ⊢
  rw [← r.length]
  obtain ⟨j, h1, h2⟩ := Option.bind_eq_some_iff.mp h
  obtain ⟨v, q1, q2⟩ := r.get h2
  exact ⟨v, by rw [h1]; exact q1, q2⟩
theorem i_ix : IxR X (rO X.KW ixO) := by
  refine IxRimp (IxR.or ix_str (IxR.or ix_list ix_tup)) fun x y H Q ⟨ι, m, a, b, mo, ra, rb, p⟩ => ?_
  unfold ixO at p
  split at p
  · rename_i z i
    split at p
    · rename_i hl
      split at p
      · rename_i c hc
        exact .inl ⟨z, i, c, relW_str ra, relW_int rb, by rw [← LIM_eq]; exact hl, hc, post_ok p mo (.d (.str _))⟩
      · exact p.elim
    · exact p.elim
  · rename_i i _
    split at p
    · rename_i xs e
      split at p
      · rename_i w hw
        obtain ⟨a1, vs, rfl, h, rv⟩ := seqOf_ok mo e ra
        obtain ⟨v, q1, q2⟩ := atI_ok rv hw
        rcases h with h | h
        · exact .inr (.inl ⟨a1, vs, i, v, rfl, relW_int rb, h, q1, post_ok p mo q2⟩)
        · exact .inr (.inr ⟨a1, vs, i, v, rfl, relW_int rb, h, q1, post_ok p mo q2⟩)
      · exact p.elim
    · exact p.elim
  · exact p.elim
theorem cut_ok {xs : List Wd} {vs : List V} (r : RelWs K ι H xs vs) (lo hi : Option Int) : RelWs K ι H (cutW xs lo hi) (cutV vs lo hi) := by
  unfold cutW cutV
  rw [r.length]
  exact (r.drop _).take _
theorem o_abs : CallR X (.builtin "abs") (rON X.KW absO) := by
  refine CallRimp call_abs fun xs H Q ⟨ι, m, ws, mo, ra, p⟩ => ?_
  unfold absO at p
  split at p
  · rename_i i
    obtain ⟨v, rfl, r⟩ := vals_one ra
    exact ⟨i, by rw [relW_int r], post_ok p mo (.d (.int _))⟩
  · exact p.elim
theorem o_int1 : CallR X (.type "int") (rON X.KW intO1) := by
  refine CallRimp call_int1 fun xs H Q ⟨ι, m, ws, mo, ra, p⟩ => ?_
  unfold intO1 at p
  split at p
  · rename_i i
    obtain ⟨v, rfl, r⟩ := vals_one ra
    exact .inl ⟨i, by rw [relW_int r], post_ok p mo (.d (.int _))⟩
  · rename_i b
    obtain ⟨v, rfl, r⟩ := vals_one ra
    exact .inr ⟨b, by rw [relW_bl r], post_ok p mo (.d (.int _))⟩
  · exact p.elim
theorem o_list : CallR X (.type "list") (rON X.KW listO) := by
  refine CallRimp call_list_of fun xs H Q ⟨ι, m, ws, mo, ra, p⟩ => ?_
  unfold listO at p
  split at p
  · rename_i w
    split at p
    · rename_i ys e
      obtain ⟨v, rfl, r⟩ := vals_one ra
      obtain ⟨a1, vs, rfl, h, rv⟩ := seqOf_ok mo e r
      exact ⟨a1, vs, rfl, h, fun q hq => let ⟨a, b⟩ := cell_new mo hq rv; p _ _ _ (stp_new hq) a b⟩
    · exact p.elim
  · exact p.elim
theorem o_tuple : CallR X (.type "tuple") (rON X.KW tupleO) := by
  refine CallRimp call_tupleN fun xs H Q ⟨ι, m, ws, mo, ra, p⟩ => ?_
  unfold tupleO at p
  split at p
  · rename_i w
    split at p
    · rename_i ys e
      obtain ⟨v, rfl, r⟩ := vals_one ra
      obtain ⟨a1, vs, rfl, h, rv⟩ := seqOf_okP mo e r
      refine ⟨a1, vs, rfl, ?_⟩
      rcases h with h | h
      · exact .inl ⟨h, fun q o hq ho => p ι _ _ (stp_tup hq) (mo.tup hq) (mkTup_ok (SqP.new ho) (rv.step mo.apart (stp_tup hq)))⟩
      · exact .inr ⟨h.1, post_ok p mo (mkTup_ok h rv)⟩
    · exact p.elim
  · exact p.elim
theorem bools_ok : ∀ {ws : List Wd} {vs : List V} {bs : List Bool}, RelWs K ι H ws vs → boolsW ws = some bs → vs = bs.map V.bl
  | [], _, _, .nil, h => by cases h; rfl
  | .d (.bool b) :: r, _, _, .cons ra rr, h => by
    obtain ⟨bs, h1, h2⟩ := Option.map_eq_some_iff.mp (show (boolsW r).map (b :: ·) = some _ from h)
    subst h2
    rw [relW_bl ra, bools_ok rr h1]; rfl
  | .d .none :: _, _, _, _, h => by cases h
  | .d (.int _) :: _, _, _, _, h => by cases h
  | .d (.str _) :: _, _, _, _, h => by cases h
  | .d (.list _) :: _, _, _, _, h => by cases h
  | .d (.tuple _) :: _, _, _, _, h => by cases h
  | .d (.dict _) :: _, _, _, _, h => by cases h
  | .ref _ :: _, _, _, _, h => by cases h
  | .tup _ :: _, _, _, _, h => by cases h
  | .rol _ :: _, _, _, _, h => by cases h
  | .v _ :: _, _, _, _, h => by cases h
theorem o_all (hc : X.calm = true) : CallR X (.builtin "all") (rON X.KW allO) := by
  refine CallRimp (cr_all hc) fun xs H Q ⟨ι, m, ws, mo, ra, p⟩ => ?_
  unfold allO at p
  split at p
  · rename_i n
    split at p
    · rename_i ys hc
      split at p
      · rename_i bs hb
        obtain ⟨v, rfl, r⟩ := vals_one ra
        obtain ⟨a, rfl, e⟩ := relW_ref r
        obtain ⟨vs, q, rv⟩ := mo.cell _ _ _ e hc
        rw [bools_ok rv hb] at q
        exact ⟨a, bs, rfl, SqL.of q, post_ok p mo (.d (.bl _))⟩
      · exact p.elim
    · exact p.elim
  · exact p.elim
end
end DL
set_option Elab.async false
set_option linter.all false
set_option maxRecDepth 100000
set_option maxHeartbeats 2000000
namespace DL
open PySem PySem.Spec PyProof.Rows L2
section
variable {K : Kw} {W : L2.WX} {ι : List Addr} {H : Hp} {σ : L2.St} {m : Mm} {X : Cx}
/-- the whole of a tuple is itself -/
theorem sl_tupW : SlR X (fun x lo hi H Q => ∃ a xs, x = .ref a ∧ SqT X.KW H a xs ∧ (HT.sIx xs.length 0 lo = 0 ∧ HT.sIx xs.length xs.length hi = xs.length) ∧ Q (.ref a) H) := by
  intro pins s σ H x v vl vu lo hi sl Q I rx hs pl pu h
  obtain ⟨a, xs, rfl, hx, hw, q⟩ := h
  cases rx
  obtain ⟨its, r, ht, hz⟩ := I.tuple hx
  have hlen : its.toArray.size = xs.length := by rw [List.size_toArray]; exact r.length.symm
  refine ⟨"tuple", _, PyProof.Rows.slot_tuple_getitem.lookup, ht.typeIs, ?_⟩
  rw [← hlen] at hw
  obtain ⟨os, hos, hcs, hds⟩ := id hs
  have hTs : s.TypeIs (.ref sl) "slice" := ⟨os, hos, hcs⟩
  unfold getItem
  try with_reducible refine wpAny_holding ?_
  first | refine wpAny_bind (wpAny_pure ?_) | skip
  refine wpAny_bind (wpAny_sequenceKey ht.typeIs (by decide) ?_)
  refine wpAny_bind (wpAny_callSpecial?_slot (name := Str.ofString "__getitem__") ht.typeIs PyProof.Rows.slot_tuple_getitem
    (wpAny_call_entry PyProof.Rows.slot_tuple_getitem ht.typeIs entry_tuple_getitem ?_ (args_tuple_getitem _ _)))
  show wpAny _ _ (Builtin.Tuple.tupleItemsOf (.ref a) >>= _) _ _ s
  refine wpAny_bind (tupleItemsOf_ ht ?_)
  refine wpAny_bind (wpAny_typeOf hTs ?_)
  rw [if_pos (by decide)]
  refine wpAny_bind (HT.sliceApplied_gen hs pl pu ?_)
  have hyes : ((((HT.sIx its.toArray.size 0 lo : Nat) : Int) == 0 && (1 : Int) == 1 && (HT.sIx its.toArray.size its.toArray.size hi - HT.sIx its.toArray.size 0 lo) == its.toArray.size) = true) := by
    rw [hw.1, hw.2]; simp
  show wpAny _ _ (if (((HT.sIx its.toArray.size 0 lo : Nat) : Int) == 0 && (1 : Int) == 1 && (HT.sIx its.toArray.size its.toArray.size hi - HT.sIx its.toArray.size 0 lo) == its.toArray.size) = true then _ else _) _ _ s
  rw [if_pos hyes]
  have fin : EP X pins σ Q (.ref a) s := ⟨.ref a, H, I, rfl, q⟩
  refine wpAny_bind ?_
  unfold Builtin.Tuple.tupleIsExact
  refine wpAny_bind (wpAny_typeOf ht.typeIs (wpAny_pure ?_))
  rw [if_pos (by decide)]
  exact wpAny_bind (wpAny_rule (wpAny_pure ⟨_, rfl, wpAny_pure fin⟩))
def rSl (K : Kw) : V → Option Int → Option Int → Hp → VK → Prop := fun x lo hi H Q => ∃ ι m w, MemOk K ι m H ∧ RelW K ι H w x ∧ Post K W0 (RelW K) ι H [] Q (Rs.of (slO w lo hi m))
theorem SlRimp {r r' : V → Option Int → Option Int → Hp → VK → Prop} (h : SlR X r) (i : ∀ x lo hi H Q, r' x lo hi H Q → r x lo hi H Q) : SlR X r' :=
  fun pins s σ H x v vl vu lo hi sl Q I rx hs pl pu q => h pins s σ H x v vl vu lo hi sl Q I rx hs pl pu (i _ _ _ _ _ q)
theorem s_sl : SlR X (rSl X.KW) := by
  refine SlRimp (SlR.or sl_str (SlR.or sl_list (SlR.or sl_tupN sl_tupW))) fun x lo hi H Q ⟨ι, m, w, mo, r, p⟩ => ?_
  unfold slO at p
  split at p
  · rename_i z
    split at p
    · rename_i hl
      exact .inl ⟨z, relW_str r, by rw [← LIM_eq]; exact hl, post_ok p mo (.d (.str _))⟩
    · exact p.elim
  · rename_i n
    split at p
    · rename_i xs hc
      obtain ⟨a, rfl, e⟩ := relW_ref r
      obtain ⟨vs, q, rv⟩ := mo.cell _ _ _ e hc
      exact .inr (.inl ⟨a, vs, rfl, SqL.of q, fun p' hp => let ⟨c1, c2⟩ := cell_new mo hp (cut_ok rv lo hi); p _ _ _ (stp_new hp) c1 c2⟩)
    · exact p.elim
  · rename_i xs
    cases r with
    | rol h rv => exact .inr (.inl ⟨_, _, rfl, h.sqL, fun p' hp => let ⟨c1, c2⟩ := cell_new mo hp (cut_ok rv lo hi); p _ _ _ (stp_new hp) c1 c2⟩)
  · split at p
    · rename_i xs e
      obtain ⟨a, vs, rfl, h, rv⟩ := tupOf_okP e r
      by_cases hw : HT.sIx vs.length 0 lo = 0 ∧ HT.sIx vs.length vs.length hi = vs.length
      · have hw' : cutW xs lo hi = xs := by
          unfold cutW; rw [rv.length, hw.1, hw.2, ← rv.length]; simp
        rw [hw'] at p
        exact .inr (.inr (.inr ⟨a, vs, rfl, h.1, hw, post_ok p mo (mkTup_ok h rv)⟩))
      · exact .inr (.inr (.inl ⟨a, vs, rfl, h.1, hw, fun p' o hp ho => p ι _ _ (stp_tup hp) (mo.tup hp) (mkTup_ok (SqP.new ho) ((cut_ok rv lo hi).step mo.apart (stp_tup hp)))⟩))
    · exact p.elim
abbrev tO (K : Kw) (W : L2.WX) (f : Eo) : TO := tG K W (fun _ _ a b => a = b) f
theorem POimp {e : Option Expr} {t t' : TO} (h : PO X e t) (i : ∀ σ H Q, t' σ H Q → t σ H Q) : PO X e t' := ⟨fun pins s σ H Q I hw => h.run pins s σ H Q I (i σ H Q hw)⟩
theorem do_none : PO X none (tO X.KW W oNone) := POimp po_none fun σ H Q ⟨ι, env, m, eo, mo, p⟩ => post_ok p mo rfl
theorem do_some {e : Expr} {f : Em Wd} (h : PE X e (tE X.KW W f)) : PO X (some e) (tO X.KW W (oSome f)) :=
  POimp (po_some h) fun σ H Q ⟨ι, env, m, eo, mo, p⟩ => Post.bind eo mo p fun ι1 H1 a x m1 st1 mo1 eo1 ra p1 => by
    split at p1
    · rename_i i
      exact ⟨i, relW_int ra, post_ok p1 mo1 rfl⟩
    · exact p1.elim
theorem de_sl {e : Expr} {lo hi : Option Expr} {f : Em Wd} {fl fh : Eo} {p2 pos : Pos} (he : PE X e (tE X.KW W f)) (hl : PO X lo (tO X.KW W fl)) (hu : PO X hi (tO X.KW W fh)) : PE X (.Subscript e (.Slice lo hi none p2) pos) (tE X.KW W (eSl f fl fh)) :=
  PEimp (pe_slice s_sl he hl hu) fun σ H Q ⟨ι, env, m, eo, mo, p⟩ => Post.bind eo mo p fun ι1 H1 a x m1 st1 mo1 eo1 ra p1 => Post.bind eo1 mo1 p1 fun ι2 H2 l l' m2 st2 mo2 eo2 rl p2 => Post.bind eo2 mo2 p2 fun ι3 H3 h h' m3 st3 mo3 eo3 rh p3 => by
    subst rl; subst rh
    exact ⟨ι3, m3, a, mo3, (ra.step mo1.apart st2).step mo2.apart st3, p3.w0⟩
theorem kitB_of {a T : String} (ha : a ∈ ["NoneType", "bool", "int", "str", "tuple", "list", "dict"]) (hT : T ∈ ["bool", "int", "str", "tuple", "list", "dict"]) : kitB a T = some (isT a T) := by
  have all : (["NoneType", "bool", "int", "str", "tuple", "list", "dict"].all fun a => ["bool", "int", "str", "tuple", "list", "dict"].all fun T => decide (kitB a T = some (isT a T))) = true := by decide +kernel
  exact of_decide_eq_true (List.all_eq_true.mp (List.all_eq_true.mp all a ha) T hT)
theorem tyX_tup {a : Addr} {vs : List V} (h : SqT K H a vs) : TyX K H (.ref a) (.type "tuple") := by
  rcases h with (h | ⟨o, h⟩) | ⟨o, its, n, h, c, _⟩
  · exact .base (.tup h)
  · exact .fTuple h
  · exact .kTuple h c
theorem tyX_rol {a : Addr} {vs : List V} (h : Rol K H a vs) : TyX K H (.ref a) (.type "list") := by
  rcases h with ⟨o, h⟩ | ⟨o, its, n, h, c, _⟩
  · exact .base (.frz h)
  · exact .kList h c
theorem tyName_ok {w : Wd} {v : V} {a : String} (mo : MemOk K ι m H) (r : RelW K ι H w v) (h : tyName m w = some a) : TyX K H v (.type a) ∧ a ∈ ["NoneType", "bool", "int", "str", "tuple", "list", "dict"] := by
  cases r with
  | d r =>
    cases r with
    | non => cases h; exact ⟨.base .non, by decide⟩
    | bl _ => cases h; exact ⟨.base (.bl _), by decide⟩
    | int _ => cases h; exact ⟨.base (.int _), by decide⟩
    | str _ => cases h; exact ⟨.base (.str _), by decide⟩
    | tup q _ => cases h; exact ⟨tyX_tup q.1, by decide⟩
  | tup q _ => cases h; exact ⟨tyX_tup q.1, by decide⟩
  | rol q _ => cases h; exact ⟨tyX_rol q, by decide⟩
  | v _ => cases h
  | ref e =>
    simp only [tyName] at h
    split at h
    · rename_i xs hc
      cases h
      obtain ⟨vs, q, _⟩ := mo.cell _ _ _ e hc
      exact ⟨.base (.lst q), by decide⟩
    · rename_i xs hc
      cases h
      obtain ⟨vs, q, _⟩ := mo.cell _ _ _ e hc
      exact ⟨.base (.dK q), by decide⟩
    · cases h
theorem de_isi {T : String} {x : Str} {e : Expr} {f : Em Wd} {p p2 pos : Pos} (hT : T ∈ ["bool", "int", "str", "tuple", "list", "dict"]) (hg : Gl X "isinstance") (hm : X.mg "isinstance" = none) (hgT : Gl X x) (hmT : X.mg x = none) (hvT : bootBuiltins x = some (.type T)) (he : PE X e (tE X.KW W f))
    (hv : bootBuiltins "isinstance" = some (.builtin "isinstance")) (hn : x ≠ "__name__" := by decide) (hd : (x == ("__debug__" : Str)) = false := by decide)
    (hs : starEach [e, .Name x p2] X.env = (false, eval e X.env) :: starEach [.Name x p2] X.env := by rfl) (hs2 : starEach [.Name x p2] X.env = (false, eval (.Name x p2) X.env) :: starEach [] X.env := by rfl) (hpl : (backTo pos (starEach [.Name x p2] X.env)).any (·.1) = false := by rfl) :
    PE X (.Call (.Name "isinstance" p) [e, .Name x p2] [] pos) (tE X.KW W (eIsi [T] f)) :=
  PEimp (pe_callB call_isi hg hm hv (pa_cons he (pa_cons (pe_bltn (v := .ty T) hgT hmT hvT rfl hn hd) pa_nil hs2) hs) (by decide) (by decide) hs hpl) fun σ H Q ⟨ι, env, m, eo, mo, p⟩ => Post.bind eo mo p fun ι1 H1 a v m1 st1 mo1 eo1 ra p1 => by
    unfold isiO at p1
    cases q : tyName m1 a with
    | none => rw [q] at p1; exact p1.elim
    | some t =>
      rw [q] at p1
      obtain ⟨h1, h2⟩ := tyName_ok mo1 ra q
      refine ⟨v, .ty T, _, _, _, rfl, .ty T, h1, kit_ty (kitB_of h2 hT), ?_⟩
      have := post_ok p1 mo1 (.d (.bl _))
      simpa using this
theorem de_isi2 {T U : String} {x y : Str} {e : Expr} {f : Em Wd} {p p2 p3 p4 pos : Pos} {kk} (hT : T ∈ ["bool", "int", "str", "tuple", "list", "dict"]) (hU : U ∈ ["bool", "int", "str", "tuple", "list", "dict"]) (hg : Gl X "isinstance") (hm : X.mg "isinstance" = none) (hgT : Gl X x) (hmT : X.mg x = none) (hvT : bootBuiltins x = some (.type T))
    (hgU : Gl X y) (hmU : X.mg y = none) (hvU : bootBuiltins y = some (.type U)) (he : PE X e (tE X.KW W f)) (hv : bootBuiltins "isinstance" = some (.builtin "isinstance")) (hn : x ≠ "__name__" := by decide) (hd : (x == ("__debug__" : Str)) = false := by decide) (hn2 : y ≠ "__name__" := by decide) (hd2 : (y == ("__debug__" : Str)) = false := by decide)
    (hs : starEach [e, .Tuple [.Name x p2, .Name y p3] kk p4] X.env = (false, eval e X.env) :: starEach [.Tuple [.Name x p2, .Name y p3] kk p4] X.env := by rfl) (hs2 : starEach [.Tuple [.Name x p2, .Name y p3] kk p4] X.env = (false, eval (.Tuple [.Name x p2, .Name y p3] kk p4) X.env) :: starEach [] X.env := by rfl)
    (hs3 : starEach [.Name x p2, .Name y p3] X.env = (false, eval (.Name x p2) X.env) :: starEach [.Name y p3] X.env := by rfl) (hs4 : starEach [.Name y p3] X.env = (false, eval (.Name y p3) X.env) :: starEach [] X.env := by rfl)
    (hpl : (backTo pos (starEach [.Tuple [.Name x p2, .Name y p3] kk p4] X.env)).any (·.1) = false := by rfl) :
    PE X (.Call (.Name "isinstance" p) [e, .Tuple [.Name x p2, .Name y p3] kk p4] [] pos) (tE X.KW W (eIsi [T, U] f)) :=
  PEimp (pe_callB call_isiT hg hm hv (pa_cons he (pa_cons (pe_tup (pa_cons (pe_bltn (v := .ty T) hgT hmT hvT rfl hn hd) (pa_cons (pe_bltn (v := .ty U) hgU hmU hvU rfl hn2 hd2) pa_nil hs4) hs3)) pa_nil hs2) hs) (by decide) (by decide) hs hpl) fun σ H Q ⟨ι, env, m, eo, mo, p⟩ => Post.bind eo mo p fun ι1 H1 a v m1 st1 mo1 eo1 ra p1 => by
    unfold isiO at p1
    cases q : tyName m1 a with
    | none => rw [q] at p1; exact p1.elim
    | some t =>
      rw [q] at p1
      refine ⟨by show 2 ≤ sizeLine; rw [← LIM_eq]; decide, fun q' hq => ?_⟩
      have st2 : Stp ι1 H1 ι1 (upd H1 q' (.tup [V.ty T, V.ty U])) := stp_tup hq
      obtain ⟨h1, h2⟩ := tyName_ok (mo1.tup hq) (ra.step mo1.apart st2) q
      refine ⟨v, q', _, _, _, (isT t T || isT t U), rfl, upd_same, .cons (.ty T) (.cons (.ty U) .nil), h1, ?_, ?_⟩
      · refine kitAny_cons (kit_ty (kitB_of h2 hT)) (r := isT t T || isT t U) (fun e => ?_) (fun e => by rw [e]; rfl)
        rw [e]
        exact kitAny_cons (kit_ty (kitB_of h2 hU)) (r := isT t U) (fun e => by rw [e]; exact kitAny_nil) (fun e => e)
      · have := p1 ι1 _ (.bl _) st2 (mo1.tup hq) (.d (.bl _))
        simpa using this
end
end DL
set_option Elab.async false
set_option linter.all false
set_option maxRecDepth 100000
set_option maxHeartbeats 2000000
namespace DL
open PySem PySem.Spec PyProof.Rows L2
/-- a, b = x, y -/
def setsE : List Nat → List Wd → Env → Option Env
  | [], [], env => some env
  | i :: r, w :: ws, env => setsE r ws (env.set i (some w))
  | _, _, _ => none
def sPar (is : List Nat) (f : Em (List Wd)) : Sm := fun env m => rs (f env m) env fun ws m => match setsE is ws env with
  | some env => .go .nx env m
  | none => .stuck
def iVal (f : Em Wd) : Em (List Wd × Gd) := fun env m => (f env m).bind fun w m => match w with
  | .d (.tuple ds) => .ok (ds.map .d, []) m
  | .tup ws => .ok (ws, []) m
  | .rol ws => .ok (ws, []) m
  | .ref n => match m.cells[n]? with
    | some (.lst xs) => .ok (xs, [(n, .lst xs)]) m
    | _ => .stuck
  | .d (.str x) => .ok (x.cps.toList.map fun c => .d (.str ⟨#[c]⟩), []) m
  | _ => .stuck
def range62 (i : Int) : Bool := decide (-(2 ^ 62) ≤ i ∧ i < 2 ^ 62)
def intsFrom (lo : Int) (n : Nat) : List Wd := (List.range n).map fun (k : Nat) => .d (.int (lo + k))
def iRan1 (f : Em (List Wd)) : Em (List Wd × Gd) := fun env m => (f env m).bind fun ws m => match ws with
  | [.d (.int j)] => if range62 j = true then .ok (intsFrom 0 j.toNat, []) m else .stuck
  | _ => .stuck
section
variable {K : Kw} {W : L2.WX} {ι ι0 : List Addr} {H H0 : Hp} {env : Env} {σ : L2.St} {m : Mm} {X : Cx}
theorem post_eM {g : Wd → List Wd → Mm → Option (Wd × Mm)} {r : V → List V → Hp → VK → Prop} {fo : Em Wd} {fa : Em (List Wd)} {Q : VK} (hg : ∀ ι m H w x ws xs Q, MemOk K ι m H → RelW K ι H w x → RelWs K ι H ws xs → Post K W0 (RelW K) ι H [] Q (Rs.of (g w ws m)) → r x xs H Q)
    (h : tE K W (eM g fo fa) σ H Q) : tBM K "list" r (tE K W fo) (tA K W fa) σ H Q := by
  obtain ⟨ι, env, m, eo, mo, p⟩ := h
  refine Post.bind eo mo p fun ι1 H1 a x m1 st1 mo1 eo1 ra p1 => ?_
  split at p1
  · rename_i n
    split at p1
    · rename_i xs hc
      obtain ⟨a, rfl, e⟩ := relW_ref ra
      obtain ⟨vs, q, rv⟩ := mo1.cell _ _ _ e hc
      refine ⟨.inl ⟨rfl, vs, SqL.of q⟩, ?_⟩
      exact Post.bind eo1 mo1 p1 fun ι2 H2 b y m2 st2 mo2 eo2 rb p2 => hg ι2 m2 H2 _ _ b y Q mo2 (ra.step mo1.apart st2) rb p2.w0
    · exact p1.elim
  · exact p1.elim
mutual
theorem lt_mono {k l : Nat} (h : k ≤ l) : ∀ w : Wd, Wd.lt k w = true → Wd.lt l w = true
  | .d _, _ => rfl
  | .ref n, e => decide_eq_true (Nat.lt_of_lt_of_le (of_decide_eq_true e) h)
  | .tup xs, e => ltAll_mono h xs e
  | .rol xs, e => ltAll_mono h xs e
  | .v _, _ => rfl
theorem ltAll_mono {k l : Nat} (h : k ≤ l) : ∀ ws : List Wd, Wd.ltAll k ws = true → Wd.ltAll l ws = true
  | [], _ => rfl
  | w :: ws, e => by
    have e' : (Wd.lt k w && Wd.ltAll k ws) = true := e
    rw [Bool.and_eq_true] at e'
    show (Wd.lt l w && Wd.ltAll l ws) = true
    rw [lt_mono h w e'.1, ltAll_mono h ws e'.2]; rfl
end
theorem ltAll_mem {k : Nat} : ∀ {ws : List Wd}, Wd.ltAll k ws = true ↔ ∀ w ∈ ws, Wd.lt k w = true
  | [] => by simp [Wd.ltAll]
  | w :: ws => by
    show (Wd.lt k w && Wd.ltAll k ws) = true ↔ _
    rw [Bool.and_eq_true, ltAll_mem]; simp
/-- a list's cell gets other items -/
theorem cell_put {n : Nat} {a : Addr} {xs ys : List Wd} {us : List V} {pure : Bool} (mo : MemOk K ι m H) (e : ι[n]? = some a) (hc : m.cells[n]? = some (.lst xs)) (r : RelWs K ι H ys us) (hp : pure = true → ∀ w ∈ ys, w ∈ xs ∨ Wd.lt 0 w = true) :
    MemOk K ι (m.put n (.lst ys) pure) (upd H a (.lst us)) ∧ Stp ι H ι (upd H a (.lst us)) := by
  have ha : a ∈ ι := List.mem_of_getElem? e
  refine ⟨mo.put e hc ⟨us, upd_same, r.step mo.apart (stp_set ha)⟩ fun q b hb => ?_, stp_set ha⟩
  refine ltAll_mem.mpr fun w hw => ?_
  rcases hp q w hw with z | z
  · exact ltAll_mem.mp hb w z
  · exact lt_mono (Nat.zero_le _) w z
theorem m_app : ∀ ι m H w x ws xs Q, MemOk K ι m H → RelW K ι H w x → RelWs K ι H ws xs → Post K W0 (RelW K) ι H [] Q (Rs.of (appO w ws m)) → rAppend x xs H Q := by
  intro ι m H w x ws xs Q mo r rs p
  unfold appO at p
  split at p
  · rename_i n w
    split at p
    · rename_i ys hc
      split at p
      · rename_i hl
        obtain ⟨a, rfl, e⟩ := relW_ref r
        obtain ⟨vs, q, rv⟩ := mo.cell _ _ _ e hc
        obtain ⟨y, rfl, ry⟩ := vals_one rs
        have c := cell_put (pure := w.lt 0) mo e hc (rv.append (.cons ry .nil)) fun z u hu => by
          rcases List.mem_append.mp hu with h | h
          · exact .inl h
          · rw [List.mem_singleton.mp h]; exact .inr z
        exact ⟨a, vs, y, rfl, rfl, q, by rw [← rv.length, ← LIM_eq]; exact hl, p ι _ _ c.2 c.1 (.d .non)⟩
      · exact p.elim
    · exact p.elim
  · exact p.elim
theorem m_ext : ∀ ι m H w x ws xs Q, MemOk K ι m H → RelW K ι H w x → RelWs K ι H ws xs → Post K W0 (RelW K) ι H [] Q (Rs.of (extO w ws m)) → rExtend x xs H Q := by
  intro ι m H w x ws xs Q mo r rs p
  unfold extO at p
  split at p
  · rename_i n k
    split at p
    · rename_i ys zs hc hc2
      split at p
      · rename_i hl
        obtain ⟨a, rfl, e⟩ := relW_ref r
        obtain ⟨vs, q, rv⟩ := mo.cell _ _ _ e hc
        obtain ⟨y, rfl, ry⟩ := vals_one rs
        obtain ⟨b, rfl, e2⟩ := relW_ref ry
        obtain ⟨us, q2, ru⟩ := mo.cell _ _ _ e2 hc2
        have c := cell_put (pure := Wd.ltAll 0 zs) mo e hc (rv.append ru) fun z u hu => by
          rcases List.mem_append.mp hu with h | h
          · exact .inl h
          · exact .inr (ltAll_mem.mp z u h)
        exact ⟨a, b, vs, us, rfl, rfl, q, q2, by rw [← rv.length, ← ru.length, ← LIM_eq]; exact hl, p ι _ _ c.2 c.1 (.d .non)⟩
      · exact p.elim
    · exact p.elim
  · exact p.elim
theorem RelWs.eraseIdx : ∀ {ws : List Wd} {vs : List V} (n : Nat), RelWs K ι H ws vs → RelWs K ι H (ws.eraseIdx n) (vs.eraseIdx n)
  | _, _, _, .nil => .nil
  | _, _, 0, .cons h hs => hs
  | _, _, n + 1, .cons h hs => .cons h (RelWs.eraseIdx n hs)
theorem RelWs.dropLast {ws : List Wd} {vs : List V} (r : RelWs K ι H ws vs) : RelWs K ι H ws.dropLast vs.dropLast := by
  rw [List.dropLast_eq_take, List.dropLast_eq_take, r.length]
  exact r.take _
theorem de_app {o e : Expr} {es : List Expr} {fo : Em Wd} {fa : Em (List Wd)} {apos cpos : Pos} (ho : PE X o (tE X.KW W fo)) (ha : PA X (e :: es) (tA X.KW W fa))
    (hbase : attributeBase o "append" X.env (eval o X.env) = eval o X.env := by rfl)
    (hfew : ((backTo cpos (starEach (e :: es) X.env)).all (fun x => !x.1) && (backToKw cpos (keywordEach [] X.env)).all (fun x => x.1.isSome)
      && decide ((e :: es).length + ([] : List Keyword).length + (if ([] : List Keyword).isEmpty then 0 else 1) < 30)) = true := by rfl)
    (hline : (apos.endLine == cpos.line) = true := by rfl) (hs : starEach (e :: es) X.env = (false, eval e X.env) :: starEach es X.env := by rfl) (hplain : (backTo cpos (starEach es X.env)).any (·.1) = false := by rfl) :
    PE X (.Call (.Attribute o "append" apos) (e :: es) [] cpos) (tE X.KW W (eM appO fo fa)) :=
  PEimp (pe_bm PySem.F.plainAttrs_list PySem.F.slot_list_append PySem.F.type_list_append mt_append ho ha hbase hfew hline hs hplain) fun σ H Q h => post_eM m_app h
theorem de_ext {o e : Expr} {es : List Expr} {fo : Em Wd} {fa : Em (List Wd)} {apos cpos : Pos} (ho : PE X o (tE X.KW W fo)) (ha : PA X (e :: es) (tA X.KW W fa))
    (hbase : attributeBase o "extend" X.env (eval o X.env) = eval o X.env := by rfl)
    (hfew : ((backTo cpos (starEach (e :: es) X.env)).all (fun x => !x.1) && (backToKw cpos (keywordEach [] X.env)).all (fun x => x.1.isSome)
      && decide ((e :: es).length + ([] : List Keyword).length + (if ([] : List Keyword).isEmpty then 0 else 1) < 30)) = true := by rfl)
    (hline : (apos.endLine == cpos.line) = true := by rfl) (hs : starEach (e :: es) X.env = (false, eval e X.env) :: starEach es X.env := by rfl) (hplain : (backTo cpos (starEach es X.env)).any (·.1) = false := by rfl) :
    PE X (.Call (.Attribute o "extend" apos) (e :: es) [] cpos) (tE X.KW W (eM extO fo fa)) :=
  PEimp (pe_bm PySem.F.plainAttrs_list PySem.F.slot_list_extend PySem.F.type_list_extend mt_extend ho ha hbase hfew hline hs hplain) fun σ H Q h => post_eM m_ext h
def rSet (K : Kw) : TSet := fun o i v H Q => ∃ ι m wo wi w m', MemOk K ι m H ∧ RelW K ι H wo o ∧ RelW K ι H wi i ∧ RelW K ι H w v ∧ setO wo wi w m = some m' ∧ ∀ H', Stp ι H ι H' → MemOk K ι m' H' → Q H'
theorem s_set : PSet X (rSet X.KW) := by
  intro pins s σ H o i v ov iv u Q I ro ri rv h
  obtain ⟨ι, m, wo, wi, w, m', mo, r1, r2, r3, e, q⟩ := h
  unfold setO at e
  split at e
  · rename_i n k
    split at e
    · rename_i xs hc
      split at e
      · rename_i j hj
        cases e
        obtain ⟨a, rfl, ea⟩ := relW_ref r1
        obtain ⟨vs, q1, rr⟩ := mo.cell _ _ _ ea hc
        have c := cell_put (pure := w.lt 0) mo ea hc (rr.set r3 j) fun z y hy => by
          rcases List.mem_or_eq_of_mem_set hy with h | h
          · exact .inl h
          · rw [h]; exact .inr z
        exact set_list pins s σ H _ _ _ ov iv u Q I ro ri rv ⟨a, vs, k, j, rfl, relW_int r2, q1, by rw [← rr.length]; exact hj, q _ c.2 c.1⟩
      · cases e
    · cases e
  · cases e
theorem ds_sub {o i e : Expr} {fo fi fv : Em Wd} {pos pos' : Pos} (hv : PE X e (tE X.KW W fv)) (ho : PE X o (tE X.KW W fo)) (hi : PE X i (tE X.KW W fi))
    (ha : ∀ v, assign (.Subscript o i pos') X.env v = (do
      let ov ← holding [v] (eval o X.env)
      let iv ← holding [v, ov] (eval i X.env)
      standAt pos'
      holding [v, ov, iv] (setItem ov iv v)
      release [v, ov, iv] []) := by intro _; rfl) (hs : swapsWithSole [.Subscript o i pos'] e pos.line X.env = pure false := by rfl) (hw : swappedStores [.Subscript o i pos'] e X.env = pure none := by rfl)
    (h1 : (assignEach [.Subscript o i pos'] X.env).map (·.2) = [assign (.Subscript o i pos') X.env] := by rfl) : PS X (.Assign [.Subscript o i pos'] e pos) (tS X.KW W (sSub fo fi fv)) :=
  PSimp (ps_asg hv (pg_sub ho hi s_set ha) hs hw h1) fun D σ H ⟨ι, env, m, eo, mo, p⟩ => PostS.bind eo mo p fun ι1 H1 v x m1 st1 mo1 eo1 rv p1 => PostS.bind eo1 mo1 p1 fun ι2 H2 o' y m2 st2 mo2 eo2 ro p2 => PostS.bind eo2 mo2 p2 fun ι3 H3 i' z m3 st3 mo3 eo3 ri p3 => by
    cases q : setO o' i' v m3 with
    | none => rw [q] at p3; exact p3.elim
    | some m4 =>
      rw [q] at p3
      exact ⟨ι3, m3, o', i', v, m4, mo3, ro.step mo2.apart st3, ri, (rv.step mo1.apart st2).step mo2.apart st3, q, fun H' st mo4 => p3 ι3 H' σ st mo4 (eo3.step mo3.apart st)⟩
/-- o[i] by getItem -/
theorem pget_list : PGet X (fun o i H Q => ∃ p xs k v, o = .ref p ∧ i = .int k ∧ SqL X.KW H p xs ∧ 0 ≤ k ∧ xs[k.toNat]? = some v ∧ Q v H) := by
  intro pins s σ H o i ov iv Q I ro ri h
  obtain ⟨p, xs, k, v, rfl, rfl, hq, h0, hx, q⟩ := h
  cases ro
  obtain ⟨t, rfl⟩ := ri
  obtain ⟨its, r, pl, hz⟩ := I.list hq
  obtain ⟨w, ew, rw'⟩ := r.get hx
  have hn := line63
  have := get_of hx
  exact wpAny_getItem_list pl.isList h0 (by omega) (by simpa using ew) ⟨v, H, I, rw', q⟩
def ixLO (x y : Wd) (m : Mm) : Option Wd := match x, y with
  | .ref n, .d (.int i) => match m.cells[n]? with
    | some (.lst xs) => if 0 ≤ i then xs[i.toNat]? else none
    | _ => none
  | _, _ => none
def sAugL (g : Op2) (fo fi fv : Em Wd) : Sm := fun env m => rs (fo env m) env fun o m => rs (fi env m) env fun i m => match ixLO o i m with
  | some x => rs (fv env m) env fun y m => rs (Rs.of (g x y m)) env fun z m => match setO o i z m with
    | some m => .go .nx env m
    | none => .stuck
  | none => .stuck
def iaddO : Op2 := fun a b m => match a, b with
    | .d (.int i), .d (.int j) => some (.d (.int (i + j)), m)
    | .d (.str x), .d (.str y) => if x.length + y.length ≤ LIM then some (.d (.str (x ++ y)), m) else none
    | _, _ => none
theorem p_iadd : PIp X .Add (rO X.KW iaddO) := by
  refine fun pins s σ H x y v u Q I rx ry h => (OpRimp (OpR.or iop_add iop_add_str) fun x y H Q ⟨ι, m, a, b, mo, ra, rb, p⟩ => ?_) pins s σ H x y v u Q I rx ry h
  unfold iaddO at p
  split at p
  · exact .inl ⟨_, _, relW_int ra, relW_int rb, post_ok p mo (.d (.int _))⟩
  · split at p
    · exact .inr ⟨_, _, relW_str ra, relW_str rb, by rw [← LIM_eq]; assumption, post_ok p mo (.d (.str _))⟩
    · exact p.elim
  · exact p.elim
theorem a_add : PIp X .Add (rO X.KW iaddO) := p_iadd
theorem ds_augL {o i e : Expr} {op : Operator} {g : Op2} {fo fi fv : Em Wd} {pos pos' : Pos} (hp : PIp X op (rO X.KW g)) (ho : PE X o (tE X.KW W fo)) (hi : PE X i (tE X.KW W fi)) (hv : PE X e (tE X.KW W fv))
    (ha : ∀ ov iv new, augStore i ov iv new = (do holding [new, ov, iv] (setItem ov iv new); release [new, ov, iv] []; pure .next) := by intros; rfl) : PS X (.AugAssign (.Subscript o i pos') op e pos) (tS X.KW W (sAugL g fo fi fv)) :=
  PSimp (ps_augS ho hi pget_list hv hp s_set ha) fun D σ H ⟨ι, env, m, eo, mo, p⟩ => PostS.bind eo mo p fun ι1 H1 o' x m1 st1 mo1 eo1 ro p1 => PostS.bind eo1 mo1 p1 fun ι2 H2 i' y m2 st2 mo2 eo2 ri p2 => by
    cases q : ixLO o' i' m2 with
    | none => rw [q] at p2; exact p2.elim
    | some w =>
      rw [q] at p2
      have ro2 := ro.step mo1.apart st2
      unfold ixLO at q
      split at q
      · rename_i n k
        split at q
        · rename_i xs hc
          split at q
          · rename_i h0
            obtain ⟨a, rfl, ea⟩ := relW_ref ro2
            obtain ⟨vs, q1, rr⟩ := mo2.cell _ _ _ ea hc
            obtain ⟨v, q2, rw'⟩ := rr.get q
            refine ⟨a, vs, k, v, rfl, relW_int ri, SqL.of q1, h0, q2, ?_⟩
            refine PostS.bind eo2 mo2 p2 fun ι3 H3 y' y m3 st3 mo3 eo3 ry p3 => ?_
            cases q3 : g w y' m3 with
            | none => rw [q3] at p3; exact p3.elim
            | some zm =>
              obtain ⟨z, m4⟩ := zm
              rw [q3] at p3
              simp only [Rs.of_some, rs_ok] at p3
              refine ⟨ι3, m3, w, y', mo3, rw'.step mo2.apart st3, ry, ?_⟩
              rw [q3]
              intro ι4 H4 u st4 mo4 rz
              cases q4 : setO (.ref n) (.d (.int k)) z m4 with
              | none => rw [q4] at p3; exact p3.elim
              | some m5 =>
                rw [q4] at p3
                exact ⟨ι4, m4, _, _, z, m5, mo4, (ro2.step mo2.apart st3).step mo3.apart st4, (ri.step mo2.apart st3).step mo3.apart st4, rz, q4, fun H' st mo5 => p3 ι4 H' σ (st4.trans st) mo5 ((eo3.step mo3.apart st4).step mo4.apart st)⟩
          · cases q
        · cases q
      · cases q
theorem ds_aug {i : Nat} {x : Str} {e : Expr} {op : Operator} {g : Op2} {f : Em Wd} {pos pos' : Pos} (hp : PIp X op (rO X.KW g)) (hN : X.N.Nodup) (hi : X.N[i]? = some x) (hx : Loc X.env.scope x) (he : PE X e (tE X.KW W f)) (hf : X.fn x = true ∨ X.env.scope.names.lookup x = some .local := by first | exact .inl rfl | exact .inr rfl | assumption) :
    PS X (.AugAssign (.Name x pos') op e pos) (tS X.KW W (sAug i g f)) :=
  PSimp (ps_aug hN hi hx he hp hf) fun D σ H ⟨ι, env, m, eo, mo, p⟩ => by
    unfold sAug at p
    cases q : env[i]? with
    | none => rw [q] at p; exact p.elim
    | some o =>
      cases o with
      | none => rw [q] at p; exact p.elim
      | some w =>
        rw [q] at p
        obtain ⟨v, q1, rw'⟩ := eo.2 i w q
        refine ⟨v, q1, PostS.bind eo mo p fun ι1 H1 y' y m1 st1 mo1 eo1 ry p1 => ⟨ι1, m1, w, y', mo1, rw'.step mo.apart st1, ry, ?_⟩⟩
        cases q3 : g w y' m1 with
        | none => rw [q3] at p1; exact p1.elim
        | some zm =>
          obtain ⟨z, m4⟩ := zm
          rw [q3] at p1
          simp only [Rs.of_some, rs_ok] at p1
          exact fun ι4 H4 u st4 mo4 rz => p1 ι4 H4 _ st4 mo4 ((eo1.step mo1.apart st4).set rz)
theorem sets_ok : ∀ {is : List Nat} {ws : List Wd} {vs : List V} {env env' : Env} {σ : L2.St}, EnvOk K ι H env σ → RelWs K ι H ws vs → setsE is ws env = some env' → EnvOk K ι H env' ((is.zip vs).foldl (fun σ p => σ.set p.1 (some p.2)) σ) ∧ is.length = vs.length
  | [], [], _, _, _, _, eo, .nil, e => by cases e; exact ⟨eo, rfl⟩
  | i :: is, w :: ws, _, _, _, _, eo, .cons r rs, e => by
    obtain ⟨h1, h2⟩ := sets_ok (is := is) (eo.set r) rs e
    exact ⟨h1, congrArg (· + 1) h2⟩
  | [], _ :: _, _, _, _, _, _, _, e => by cases e
  | _ :: _, [], _, _, _, _, _, _, e => by cases e
theorem ds_par {i j : Nat} {st : Stmt} {f : Em (List Wd)} (h : PS X st (tPar i j (tA X.KW W f))) : PS X st (tS X.KW W (sPar [i, j] f)) :=
  PSimp h fun D σ H ⟨ι, env, m, eo, mo, p⟩ => PostS.bind eo mo p fun ι1 H1 ws vs m1 st1 mo1 eo1 ra p1 => by
    cases q : setsE [i, j] ws env with
    | none => rw [q] at p1; exact p1.elim
    | some e1 =>
      rw [q] at p1
      obtain ⟨h1, h2⟩ := sets_ok eo1 ra q
      match vs, h2 with
      | [v, u], _ => exact ⟨v, u, rfl, p1 ι1 H1 _ .refl mo1 h1⟩
theorem src_list {n : Nat} {a : Addr} {xs : List Wd} (e : ι0[n]? = some a) : Src K (Itl K a) xs [(n, .lst xs)] ι0 H0 := by
  have look : ∀ {ι m H}, Stp ι0 H0 ι H → MemOk K ι m H → gdOk [(n, Cell.lst xs)] m = true → ∃ vs, H a = some (.lst vs) ∧ RelWs K ι H xs vs := fun st mo hg =>
    mo.cell n a _ (pre_get st.pre e) (gdOk_iff.mp hg (n, .lst xs) (List.mem_singleton.mpr rfl))
  refine ⟨fun i ι m H hi st mo hg => ?_, fun i ι m H x H' w st mo hg hy hw => ?_, fun i ι m H hi st mo hg => ?_⟩
  · obtain ⟨vs, q, r⟩ := look st mo hg
    have : i < vs.length := by rw [← r.length]; exact hi
    exact ⟨vs, vs[i], SqL.of q, List.getElem?_eq_getElem this⟩
  · obtain ⟨vs, q, r⟩ := look st mo hg
    obtain ⟨rfl, h⟩ := hy
    obtain ⟨v, q1, q2⟩ := r.get hw
    have : x = v := by have := h vs (SqL.of q); rw [q1] at this; cases this; rfl
    subst this
    exact ⟨.refl, mo, q2⟩
  · obtain ⟨vs, q, r⟩ := look st mo hg
    exact ⟨vs, SqL.of q, by rw [← r.length]; exact hi⟩
theorem src_tup {a : Addr} {xs : List Wd} {vs : List V} (ap : Apart ι0 H0) (h : SqT K H0 a vs) (r : RelWs K ι0 H0 xs vs) : Src K (Itt K a) xs [] ι0 H0 := by
  refine ⟨fun i ι m H hi st mo hg => ?_, fun i ι m H x H' w st mo hg hy hw => ?_, fun i ι m H hi st mo hg => ?_⟩
  · have : i < vs.length := by rw [← r.length]; exact hi
    exact ⟨vs, vs[i], sqT_step ap st h, List.getElem?_eq_getElem this⟩
  · obtain ⟨rfl, h2⟩ := hy
    obtain ⟨v, q1, q2⟩ := (r.step ap st).get hw
    have : x = v := by have := h2 vs (sqT_step ap st h); rw [q1] at this; cases this; rfl
    subst this
    exact ⟨.refl, mo, q2⟩
  · exact ⟨vs, sqT_step ap st h, by rw [← r.length]; exact hi⟩
theorem src_rol {a : Addr} {xs : List Wd} {vs : List V} (ap : Apart ι0 H0) (h : Rol K H0 a vs) (r : RelWs K ι0 H0 xs vs) : Src K (Itl K a) xs [] ι0 H0 := by
  refine ⟨fun i ι m H hi st mo hg => ?_, fun i ι m H x H' w st mo hg hy hw => ?_, fun i ι m H hi st mo hg => ?_⟩
  · have : i < vs.length := by rw [← r.length]; exact hi
    exact ⟨vs, vs[i], (rol_step ap st h).sqL, List.getElem?_eq_getElem this⟩
  · obtain ⟨rfl, h2⟩ := hy
    obtain ⟨v, q1, q2⟩ := (r.step ap st).get hw
    have : x = v := by have := h2 vs (rol_step ap st h).sqL; rw [q1] at this; cases this; rfl
    subst this
    exact ⟨.refl, mo, q2⟩
  · exact ⟨vs, (rol_step ap st h).sqL, by rw [← r.length]; exact hi⟩
theorem src_str {x : Str} : Src K (Its x) (x.cps.toList.map fun c => .d (.str ⟨#[c]⟩)) [] ι0 H0 := by
  refine ⟨fun i ι m H hi st mo hg => ?_, fun i ι m H v H' w st mo hg hy hw => ?_, fun i ι m H hi st mo hg => ?_⟩
  · rw [List.length_map, Array.length_toList] at hi; exact hi
  · obtain ⟨rfl, c, hc, rfl⟩ := hy
    rw [List.getElem?_map, Array.getElem?_toList, hc] at hw
    cases hw
    exact ⟨.refl, mo, .d (.str _)⟩
  · rw [List.length_map, Array.length_toList] at hi; exact hi
theorem src_range {lo : Int} {n : Nat} : Src K (Itr lo n) (intsFrom lo n) [] ι0 H0 := by
  refine ⟨fun i ι m H hi st mo hg => ?_, fun i ι m H v H' w st mo hg hy hw => ?_, fun i ι m H hi st mo hg => ?_⟩
  · rw [intsFrom, List.length_map, List.length_range] at hi; exact hi
  · obtain ⟨rfl, rfl⟩ := hy
    rw [intsFrom, List.getElem?_map] at hw
    obtain ⟨k, h1, h2⟩ := Option.map_eq_some_iff.mp hw
    rw [List.getElem?_range (by have := get_of h1; rwa [List.length_range] at this)] at h1
    cases h1
    subst h2
    exact ⟨.refl, mo, .d (.int _)⟩
  · rw [intsFrom, List.length_map, List.length_range] at hi; exact hi
theorem di_val {tg e : Expr} {f : Em Wd} (h : PE X e (tE X.KW W f)) : PI X tg e (tI X.KW W (iVal f)) := by
  refine PIimp (PIor (pi_list h) (PIor (pi_tup h) (pi_str h))) fun σ H R ⟨ι, env, m, eo, mo, p⟩ => ?_
  unfold iVal at p
  -- the expression's own end
  have go : ∀ {β : Prop} (P : V → Hp → Prop), (∀ w m1, f env m = .ok w m1 → ∀ ι1 H1 v, Stp ι H ι1 H1 → MemOk X.KW ι1 m1 H1 → RelW X.KW ι1 H1 w v → P v H1) → (∀ x m1, f env m = .exc x m1 → ∀ ι1 H1 cls d, Stp ι H ι1 H1 → MemOk X.KW ι1 m1 H1 → ExOk X.KW ι1 H1 x cls d → W cls d σ H1) → (f env m = .stuck → False) → tE X.KW W f σ H P := fun {β} P h1 h2 h3 => by
    refine ⟨ι, env, m, eo, mo, ?_⟩
    cases q : f env m with
    | ok w m1 => exact fun ι1 H1 v st mo1 r => h1 w m1 q ι1 H1 v st mo1 r
    | exc x m1 => exact fun ι1 H1 c d st mo1 xo => h2 x m1 q ι1 H1 c d st mo1 xo
    | stuck => exact h3 q
  cases q : f env m with
  | stuck => rw [q] at p; exact p.elim
  | exc x m1 =>
    rw [q] at p
    exact .inl (go (β := True) _ (fun w m2 e => by rw [q] at e; cases e) (fun x' m2 e => by rw [q] at e; cases e; exact p) (fun e => by rw [q] at e; cases e))
  | ok w m1 =>
    rw [q] at p
    have gg : ∀ P : V → Hp → Prop, (∀ ι1 H1 v, Stp ι H ι1 H1 → MemOk X.KW ι1 m1 H1 → RelW X.KW ι1 H1 w v → P v H1) → tE X.KW W f σ H P := fun P hP =>
      go (β := True) P (fun w' m2 e => by rw [q] at e; cases e; exact hP) (fun x' m2 e => by rw [q] at e; cases e) (fun e => by rw [q] at e; cases e)
    simp only [Rs.bind_ok] at p
    split at p
    · rename_i xs gd m2 hh
      split at hh
      · rename_i ds
        cases hh
        refine .inr (.inl (gg _ fun ι1 H1 v st mo1 r => ?_))
        obtain ⟨a, vs, rfl, h1, rv⟩ := tupOf_ok (w := .d (.tuple ds)) rfl r
        exact ⟨a, rfl, ⟨vs, h1⟩, p ι1 H1 _ st mo1 (src_tup mo1.apart h1 rv)⟩
      · rename_i ws
        cases hh
        refine .inr (.inl (gg _ fun ι1 H1 v st mo1 r => ?_))
        obtain ⟨a, vs, rfl, h1, rv⟩ := tupOf_ok (w := .tup xs) rfl r
        exact ⟨a, rfl, ⟨vs, h1⟩, p ι1 H1 _ st mo1 (src_tup mo1.apart h1 rv)⟩
      · rename_i ws
        cases hh
        refine .inl (gg _ fun ι1 H1 v st mo1 r => ?_)
        cases r with
        | rol h1 rv => exact ⟨_, rfl, ⟨_, h1.sqL⟩, p ι1 H1 _ st mo1 (src_rol mo1.apart h1 rv)⟩
      · rename_i n
        split at hh
        · rename_i ys hc
          cases hh
          refine .inl (gg _ fun ι1 H1 v st mo1 r => ?_)
          obtain ⟨a, rfl, e⟩ := relW_ref r
          obtain ⟨vs, q1, rv⟩ := mo1.cell _ _ _ e hc
          exact ⟨a, rfl, ⟨vs, SqL.of q1⟩, p ι1 H1 _ st mo1 (src_list e)⟩
        · cases hh
      · rename_i x
        cases hh
        refine .inr (.inr (gg _ fun ι1 H1 v st mo1 r => ?_))
        exact ⟨x, relW_str r, p ι1 H1 _ st mo1 src_str⟩
      · cases hh
    · rename_i x m2 hh
      split at hh <;> first | (cases hh; done) | (split at hh <;> cases hh)
    · exact p.elim
theorem di_ran1 {tg a : Expr} {f : Em (List Wd)} {p pos : Pos} (hg : Gl X "range") (hm : X.mg "range" = none) (ha : PA X [a] (tA X.KW W f)) (hs : starEach [a] X.env = [(false, eval a X.env)] := by rfl) : PI X tg (.Call (.Name "range" p) [a] [] pos) (tI X.KW W (iRan1 f)) := by
  refine PIimp (pi_range1 hg hm ha hs) fun σ H R ⟨ι, env, m, eo, mo, p⟩ => ?_
  unfold iRan1 at p
  refine ⟨ι, env, m, eo, mo, ?_⟩
  cases q : f env m with
  | stuck => rw [q] at p; exact p.elim
  | exc x m1 => rw [q] at p; exact p
  | ok ws m1 =>
    rw [q] at p
    simp only [Rs.bind_ok] at p
    split at p
    · rename_i xs gd m2 hh
      split at hh
      · rename_i j
        split at hh
        · rename_i hj
          cases hh
          intro ι1 H1 vs st mo1 r
          obtain ⟨v, rfl, rv⟩ := vals_one r
          have := of_decide_eq_true hj
          exact ⟨j, by rw [relW_int rv], this.1, this.2, p ι1 H1 _ st mo1 src_range⟩
        · cases hh
      · cases hh
    · rename_i x m2 hh
      split at hh <;> first | (cases hh; done) | (split at hh <;> cases hh)
    · exact p.elim
end
end DL
set_option Elab.async false
set_option linter.all false
set_option maxRecDepth 100000
set_option maxHeartbeats 2000000
namespace DL
open PySem PySem.Spec PyProof.Rows L2
def strsW : List Wd → Option (List Str)
  | [] => some []
  | .d (.str b) :: r => (strsW r).map (b :: ·)
  | _ :: _ => none
section
variable {K : Kw} {W : L2.WX} {ι ι0 : List Addr} {H H0 : Hp} {env : Env} {σ : L2.St} {m : Mm} {X : Cx}
theorem strs_ok : ∀ {ws : List Wd} {vs : List V} {bs : List Str}, RelWs K ι H ws vs → strsW ws = some bs → vs = bs.map V.str
  | [], _, _, .nil, h => by cases h; rfl
  | w :: r, _, _, .cons ra rr, h => by
    unfold strsW at h
    split at h
    · rename_i e
      cases e
    · rename_i b r' e
      cases e
      obtain ⟨bs, h1, h2⟩ := Option.map_eq_some_iff.mp h
      subst h2
      rw [relW_str ra, strs_ok rr h1]; rfl
    · cases h
theorem relStrs : ∀ (ss : List Str), RelWs K ι H (ss.map fun x => .d (.str x)) (ss.map V.str)
  | [] => .nil
  | x :: r => .cons (.d (.str x)) (relStrs r)
theorem relInts : ∀ (ss : List Int), RelWs K ι H (ss.map fun x => .d (.int x)) (ss.map V.int)
  | [] => .nil
  | x :: r => .cons (.d (.int x)) (relInts r)
theorem d_fn {P : Program} {w : World} {K : PySem.W.Frag} {mg : Str → Option Value} {base : Heap} {x qual : Str} {params : Arguments} {body : List Stmt} {scope : Scope} {f : Addr} {fd : FuncData} {N ps : List Str} {k n j : Nat} {b : Sm} (F : FunD K x qual params body scope [] [] f fd) (S : FnScope N ps scope) (hN : N.length = n) (hj : ps.length = j)
    (hb : ∀ (cdv : Value) (A : Around) (outer : List PySem.Env) (s : Shared) (H : Hp) (E : XK), Room k (A.deeper (envOfC qual scope s.heap.objs.size f cdv)) → Takes (cxOf (L2.CX P w) P w K mg base N qual scope f cdv A outer s H E) (fun cls d _ H => E cls d H) →
      PassesOwn (model P w) (A.deeper (envOfC qual scope s.heap.objs.size f cdv)) (envOfC qual scope s.heap.objs.size f cdv) (cxOf (L2.CX P w) P w K mg base N qual scope f cdv A outer s H E).xe →
      PSs (cxOf (L2.CX P w) P w K mg base N qual scope f cdv A outer s H E) body (tS ⟨K, w⟩ (fun cls d _ H => E cls d H) b)) : FnOk P w K mg base (L2.CX P w) (k + 1) f fd ps (spD ⟨K, w⟩ j (runF n b)) :=
  F.ok S (fun vs H Q E h => by obtain ⟨_, _, _, hl, _⟩ := h; exact hl.trans hj.symm) fun cdv A outer s H vs Q E hr h =>
    ⟨_, hb cdv A outer s H E hr (takes_of rfl rfl rfl rfl) (passes_of rfl), fn_start hN h⟩
def scriptW (ns : List Int) : Wd := .rol (ns.map fun i => .d (.int i))
end
end DL
set_option Elab.async false
set_option linter.all false
set_option maxRecDepth 100000
set_option maxHeartbeats 2000000
namespace DL
open PySem PySem.Spec PyProof.Rows L2
mutual
def datU (K : PySem.W.Frag) : PyData → Value → Bool
  | .none, u => (match u with | .none => true | _ => false)
  | .bool b, u => (match u with | .bool c => b == c | _ => false)
  | .int i, u => (match u with | .int j _ => decide (i = j) | _ => false)
  | .str x, u => (match u with | .str y _ => decide (x = y) | _ => false)
  | .tuple ds, u => (match u with
    | .ref a => (match K.lookup a with
      | some ⟨.type c, od, .seq its _, _⟩ => decide (c = "tuple") && decide (its.size ≤ sizeLine) && (od.isNone && datUs K ds its.toList)
      | _ => false)
    | _ => false)
  | _, _ => false
def datUs (K : PySem.W.Frag) : List PyData → List Value → Bool
  | [], us => us.isEmpty
  | d :: ds, us => (match us with | u :: r => datU K d u && datUs K ds r | [] => false)
end
mutual
theorem datU_ok {K : PySem.W.Frag} : ∀ {d : PyData} {u : Value}, datU K d u = true → ∃ v, RelV v u ∧ ∀ w H, RelD ⟨K, w⟩ H d v
  | .none, u, h => by
    cases u <;> first | cases h; done | exact ⟨.non, rfl, fun _ _ => .non⟩
  | .bool b, u, h => by
    cases u with
    | bool c =>
      have e : b = c := eq_of_beq (show (b == c) = true from h)
      exact ⟨.bl b, by rw [e]; rfl, fun _ _ => .bl b⟩
    | _ => cases h
  | .int i, u, h => by
    cases u with
    | int j t => exact ⟨.int i, ⟨t, by rw [of_decide_eq_true (show decide (i = j) = true from h)]⟩, fun _ _ => .int i⟩
    | _ => cases h
  | .str x, u, h => by
    cases u with
    | str j t => exact ⟨.str x, ⟨t, by rw [of_decide_eq_true (show decide (x = j) = true from h)]⟩, fun _ _ => .str x⟩
    | _ => cases h
  | .tuple ds, u, h => by
    cases u with
    | ref a =>
      have h' : (match K.lookup a with
        | some ⟨.type c, od, .seq its _, _⟩ => decide (c = "tuple") && decide (its.size ≤ sizeLine) && (od.isNone && datUs K ds its.toList)
        | _ => false) = true := h
      cases q : K.lookup a with
      | none => rw [q] at h'; cases h'
      | some o =>
        obtain ⟨oc, od, dt, osl⟩ := o
        rw [q] at h'
        cases oc with
        | type c =>
          cases dt with
          | seq its n =>
            have h2 : (decide (c = "tuple") && decide (its.size ≤ sizeLine) && (od.isNone && datUs K ds its.toList)) = true := h'
            rw [Bool.and_eq_true, Bool.and_eq_true, Bool.and_eq_true] at h2
            obtain ⟨vs, r, rd⟩ := datUs_ok h2.2.2
            have hc : c = "tuple" := of_decide_eq_true h2.1.1
            subst hc
            exact ⟨.ref a, rfl, fun w H => .tup ⟨.inr ⟨_, its, n, q, rfl, rfl, of_decide_eq_true h2.1.2, r⟩, .inr ⟨_, q, Option.isNone_iff_eq_none.mp h2.2.1⟩⟩ (rd w H)⟩
          | _ => cases h'
        | _ => cases dt <;> cases h'
    | _ => cases h
  | .list _, _, h => by cases h
  | .dict _, _, h => by cases h
theorem datUs_ok {K : PySem.W.Frag} : ∀ {ds : List PyData} {us : List Value}, datUs K ds us = true → ∃ vs, Vals vs us ∧ ∀ w H, RelDs ⟨K, w⟩ H ds vs
  | [], us, h => by
    cases us with
    | nil => exact ⟨[], .nil, fun _ _ => .nil⟩
    | cons _ _ => cases h
  | d :: ds, us, h => by
    cases us with
    | nil => cases h
    | cons u r =>
      have h' : (datU K d u && datUs K ds r) = true := h
      rw [Bool.and_eq_true] at h'
      obtain ⟨v, r1, d1⟩ := datU_ok h'.1
      obtain ⟨vs, r2, d2⟩ := datUs_ok h'.2
      exact ⟨v :: vs, .cons r1 r2, fun w H => .cons (d1 w H) (d2 w H)⟩
end
def conF (K : PySem.W.Frag) (p : Str × PyData) : Bool := match PySem.W.nsIn K mainGlobals p.1 with
  | some (some u) => datU K p.2 u
  | _ => false
/-- the module's name x stands for the data d -/
def Con (K : PySem.W.Frag) (mg : Str → Option Value) (x : Str) (d : PyData) : Prop := ∃ u v, mg x = some u ∧ RelV v u ∧ ∀ w H, RelD ⟨K, w⟩ H d v
theorem conF_ok {K : PySem.W.Frag} {h : Heap} {mg : Str → Option Value} (X : K.In h) (G : h.Ns mainGlobals mg) {x : Str} {d : PyData} (c : conF K (x, d) = true) : Con K mg x d := by
  unfold conF at c
  cases e : PySem.W.nsIn K mainGlobals x with
  | none => rw [e] at c; cases c
  | some o =>
    cases o with
    | none => rw [e] at c; cases c
    | some u =>
      rw [e] at c
      obtain ⟨v, r, rd⟩ := datU_ok c
      exact ⟨u, v, PySem.W.mg_of X G e, r, rd⟩
theorem de_K {X : Cx} {W : L2.WX} {x : Str} {d : PyData} {pos : Pos} (hg : Gl X x) (h : Con X.K X.mg x d) (hd : (x == ("__debug__" : Str)) = false := by decide) : PE X (.Name x pos) (tE X.KW W (eC (.d d))) := by
  obtain ⟨u, v, hm, r, rd⟩ := h
  exact de_G hg hm r (fun ι H => .d (rd _ H)) hd
def keyOf : PyData → Option Key
  | .int i => some (.inl i)
  | .str x => some (.inr x)
  | _ => none
def keyW : Wd → Option Key
  | .d x => keyOf x
  | _ => none
section
variable {K : Kw} {W : L2.WX} {ι ι' ι0 : List Addr} {H H' H0 : Hp} {env : Env} {σ : L2.St} {m : Mm} {X : Cx}
theorem KvOk.length : ∀ {d : List (PyData × Wd)} {v : List (Key × V)}, KvOk K ι H d v → d.length = v.length
  | [], [], _ => rfl
  | (_, _) :: _, (_, _) :: _, ⟨_, _, h3⟩ => congrArg (· + 1) (KvOk.length h3)
  | [], _ :: _, h => h.elim
  | _ :: _, [], h => h.elim
end
end DL
set_option Elab.async false
set_option linter.all false
set_option maxRecDepth 100000
set_option maxHeartbeats 2000000
namespace DL
open PySem PySem.Spec PyProof.Rows L2
abbrev IsZipB (h : Heap) (z TI TO : Addr) (f0 f1 : Value) : Prop := h.get? z = some { cls := .type "zip", dict := none, data := .fields #[f0, f1, .bool false, .ref TI, .ref TO], slots := #[] }
section
variable {prog : Program} {w : World} {A : Around} {E : Value → Shared → Prop} {s : Shared} {z TI TO i1 i2 T : Addr} {fp1 fp2 : List Addr} {n1 n2 i : Nat} {P1 P2 : Nat → Value → Prop} {St1 St2 : Nat → Heap → Prop}
theorem zipB_free {b : Bool} {o : Obj} {Q : Bool → Shared → Prop} (hz : IsZipB s.heap z TI TO (rawInt T) (.bool b)) (hT : s.heap.get? T = some o)
    (h : ∀ h', IsZipB h' z TI TO (rawInt T) (.bool true) → Heap.SameBut z s.heap h' → Q false { s with heap := h' }) : wpAny (model prog w) A (Builtin.SmallTypes.ownedTupleIsFree (.ref z)) Q E s := by
  obtain ⟨hp, g, d, tk0, os⟩ := s
  unfold Builtin.SmallTypes.ownedTupleIsFree
  refine wpAny_bind (wpAny_field hz rfl (x := rawInt T) rfl ?_)
  show wpAny _ _ (loadIfAlive T >>= _) _ _ _
  refine wpAny_bind (PySem.W.kdx_alive hT ?_)
  simp only [Option.isNone_some, Bool.false_eq_true, if_false]
  cases b with
  | true =>
    refine wpAny_bind (wpAny_field hz rfl (x := .bool true) rfl ?_)
    rw [if_neg (by decide)]
    exact wpAny_pure (h _ hz ⟨rfl, fun _ _ => rfl⟩)
  | false =>
    refine wpAny_bind (wpAny_field hz rfl (x := .bool false) rfl ?_)
    rw [if_pos (by decide)]
    refine wpAny_bind (wpAny_setField_rec hz (by simp) fun g0 hz0 hs0 => ?_)
    exact wpAny_pure (h g0 hz0 hs0)
theorem zipB_next_item {b : Bool} {o : Obj} {Q : Value → Shared → Prop} (S : ZipSep2 z TI TO i1 i2 fp1 fp2) (D1 : Draws prog w A i1 fp1 n1 P1 St1) (D2 : Draws prog w A i2 fp2 n2 P2 St2)
    (hz : IsZipB s.heap z TI TO (rawInt T) (.bool b)) (hT : s.heap.get? T = some o) (hTI : IsTupOf2 s.heap TI (.ref i1) (.ref i2)) (st1 : St1 i s.heap) (st2 : St2 i s.heap) (hlt1 : i < n1) (hlt2 : i < n2)
    (hQ : ∀ x1 x2 h' tk, P1 i x1 → P2 i x2 → IsZipB h' z TI TO (rawInt T) (.bool true) → St1 (i + 1) h' → St2 (i + 1) h' → IsTupOf2 h' s.heap.objs.size x1 x2 → h'.objs.size = s.heap.objs.size + 1 →
      (∀ c o, c ≠ z → c ≠ i1 → c ≠ i2 → s.heap.get? c = some o → h'.get? c = some o) → Q (.ref s.heap.objs.size) { s with heap := h', toks := tk }) :
    wpAny (model prog w) A (Builtin.«zip.__next__» ⟨[.ref z], []⟩) (fun fin s' => ∃ v, fin = .done (.ret v) ∧ Q v s') E s := by
  obtain ⟨hp, g, d, tk0, os⟩ := s
  show wpAny _ _ (field (.ref z) 2 >>= _) _ _ _
  refine wpAny_bind (wpAny_field hz rfl (x := .bool false) rfl ?_)
  show wpAny _ _ (field (.ref z) 3 >>= _) _ _ _
  refine wpAny_bind (wpAny_field hz rfl (x := .ref TI) rfl ?_)
  refine wpAny_bind (wpAny_seqItems hTI rfl ?_)
  show wpAny _ _ (Builtin.SmallTypes.ownedTupleIsFree (.ref z) >>= _) _ _ _
  refine wpAny_bind (zipB_free hz hT fun g0 hz0 hs0 => ?_)
  replace hs0 : Heap.SameBut z hp g0 := hs0
  simp only [Bool.false_eq_true, if_false]
  try dsimp only
  refine wpAny_bind ?_
  first
  | rw [List.forIn_toArray]
  | (rw [← Array.forIn_toList]; simp only [List.toList_toArray])
  simp only [List.forIn_cons, List.forIn_nil]
  refine wpAny_bind (wpAny_bind (wpAny_holding ?_))
  show wpAny _ _ (Builtin.SmallTypes.nextOf (.ref i1) >>= _) _ _ ⟨g0, g, d, tk0, os⟩
  refine wpAny_bind (D1.item i _ _ _ hlt1 (D1.over st1 hs0 S.zf1) fun x1 p1 tk1 hx1 sn1 hp1 => wpAny_pure ?_)
  replace hp1 : Heap.SameBut i1 g0 p1 := hp1
  refine wpAny_pure ?_
  refine wpAny_bind (wpAny_bind (wpAny_holding ?_))
  show wpAny _ _ (Builtin.SmallTypes.nextOf (.ref i2) >>= _) _ _ ⟨p1, g, d, tk1, os⟩
  refine wpAny_bind (D2.item i _ _ _ hlt2 (D2.over (D2.over st2 hs0 S.zf2) hp1 S.sep1_2) fun x2 p2 tk2 hx2 sn2 hp2 => wpAny_pure ?_)
  replace hp2 : Heap.SameBut i2 p1 p2 := hp2
  refine wpAny_pure (wpAny_pure ?_)
  refine wpAny_bind (wpAny_newTuple ?_ (by show 2 ≤ sizeLine; decide))
  have hsz : p2.objs.size = hp.objs.size := by rw [hp2.1, hp1.1, hs0.1]
  have hzz : IsZipB p2 z TI TO (rawInt T) (.bool true) := hp2.extBut _ _ S.zi2 (hp1.extBut _ _ S.zi1 hz0)
  have hkk : ∀ c o, c ≠ z → c ≠ i1 → c ≠ i2 → hp.get? c = some o → p2.get? c = some o := fun c o cz c1 c2 e => hp2.extBut _ _ c2 (hp1.extBut _ _ c1 (hs0.extBut _ _ cz e))
  have hj1 : St1 (i + 1) p2 := D1.over sn1 hp2 S.sep2_1
  have up : ∀ c o, p2.get? c = some o → (p2.push { cls := .type "tuple", data := .seq #[x1, x2] }).get? c = some o := fun c o e => Heap.get?_push_of_some _ e
  have hT8 : IsTupOf2 (p2.push { cls := .type "tuple", data := .seq #[x1, x2] }) p2.objs.size x1 x2 := Heap.get?_push_size _ rfl
  have hz8 : (p2.push { cls := .type "tuple", data := .seq #[x1, x2] }).objs.size = p2.objs.size + 1 := Heap.size_push ..
  refine wpAny_pure ⟨_, rfl, ?_⟩
  rw [hsz] at hT8 hz8
  show Q (.ref p2.objs.size) ⟨p2.push { cls := .type "tuple", data := .seq #[x1, x2] }, g, d, tk2, os⟩
  rw [hsz]
  exact hQ x1 x2 _ tk2 hx1 hx2 (up _ _ hzz) (D1.frame _ _ _ hj1 fun b hb o e => up b o e) (D2.frame _ _ _ sn2 fun b hb o e => up b o e) hT8 hz8 fun c o cz c1 c2 e => up c o (hkk c o cz c1 c2 e)
theorem zipB_next_end {b : Bool} {o : Obj} {Q : Fin → Shared → Prop} (S : ZipSep2 z TI TO i1 i2 fp1 fp2) (D1 : Draws prog w A i1 fp1 n1 P1 St1) (D2 : Draws prog w A i2 fp2 n2 P2 St2)
    (hz : IsZipB s.heap z TI TO (rawInt T) (.bool b)) (hT : s.heap.get? T = some o) (hTI : IsTupOf2 s.heap TI (.ref i1) (.ref i2)) (st1 : St1 i s.heap) (st2 : St2 i s.heap) (hle1 : i ≤ n1) (hle2 : i ≤ n2) (hend : i = n1 ∨ i = n2)
    (hE : ∀ h' tk e, (∀ c o, c ≠ z → c ≠ i1 → c ≠ i2 → s.heap.get? c = some o → h'.get? c = some o) → (∃ o, h'.get? e = some o ∧ o.cls = .type "StopIteration") → E (.ref e) { s with heap := h', toks := tk }) :
    wpAny (model prog w) A (Builtin.«zip.__next__» ⟨[.ref z], []⟩) Q E s := by
  obtain ⟨hp, g, d, tk0, os⟩ := s
  show wpAny _ _ (field (.ref z) 2 >>= _) _ _ _
  refine wpAny_bind (wpAny_field hz rfl (x := .bool false) rfl ?_)
  show wpAny _ _ (field (.ref z) 3 >>= _) _ _ _
  refine wpAny_bind (wpAny_field hz rfl (x := .ref TI) rfl ?_)
  refine wpAny_bind (wpAny_seqItems hTI rfl ?_)
  show wpAny _ _ (Builtin.SmallTypes.ownedTupleIsFree (.ref z) >>= _) _ _ _
  refine wpAny_bind (zipB_free hz hT fun g0 hz0 hs0 => ?_)
  replace hs0 : Heap.SameBut z hp g0 := hs0
  simp only [Bool.false_eq_true, if_false]
  try dsimp only
  refine wpAny_bind ?_
  first
  | rw [List.forIn_toArray]
  | (rw [← Array.forIn_toList]; simp only [List.toList_toArray])
  simp only [List.forIn_cons, List.forIn_nil]
  refine wpAny_bind (wpAny_bind (wpAny_holding ?_))
  show wpAny _ _ (Builtin.SmallTypes.nextOf (.ref i1) >>= _) _ _ ⟨g0, g, d, tk0, os⟩
  by_cases hlt1 : i < n1
  · refine wpAny_bind (D1.item i _ _ _ hlt1 (D1.over st1 hs0 S.zf1) fun x1 p1 tk1 hx1 sn1 hp1 => wpAny_pure ?_)
    replace hp1 : Heap.SameBut i1 g0 p1 := hp1
    refine wpAny_pure ?_
    have hi2 : i = n2 := by omega
    refine wpAny_bind (wpAny_bind (wpAny_holding ?_))
    show wpAny _ _ (Builtin.SmallTypes.nextOf (.ref i2) >>= _) _ _ ⟨p1, g, d, tk1, os⟩
    refine wpAny_bind (D2.done ⟨p1, g, d, tk1, os⟩ _ _ (by rw [← hi2]; exact D2.over (D2.over st2 hs0 S.zf2) hp1 S.sep1_2) fun q e hq he => ?_)
    replace hq : Heap.ExtBut i2 p1 q := hq
    exact hE q tk1 e (fun c o cz c1 c2 x => hq _ _ c2 (hp1.extBut _ _ c1 (hs0.extBut _ _ cz x))) he
  · have hi1 : i = n1 := by omega
    refine wpAny_bind (D1.done ⟨g0, g, d, tk0, os⟩ _ _ (by rw [← hi1]; exact D1.over st1 hs0 S.zf1) fun q e hq he => ?_)
    replace hq : Heap.ExtBut i1 g0 q := hq
    exact hE q tk0 e (fun c o cz c1 c2 x => hq _ _ c1 (hs0.extBut _ _ cz x)) he
/-- one more, or the end -/
theorem zipB_pyNext_item {b : Bool} {o : Obj} {Q : Option Value → Shared → Prop} (S : ZipSep2 z TI TO i1 i2 fp1 fp2) (D1 : Draws prog w A.in1 i1 fp1 n1 P1 St1) (D2 : Draws prog w A.in1 i2 fp2 n2 P2 St2)
    (hz : IsZipB s.heap z TI TO (rawInt T) (.bool b)) (hT : s.heap.get? T = some o) (hTI : IsTupOf2 s.heap TI (.ref i1) (.ref i2)) (st1 : St1 i s.heap) (st2 : St2 i s.heap) (hlt1 : i < n1) (hlt2 : i < n2)
    (hQ : ∀ x1 x2 h' tk, P1 i x1 → P2 i x2 → IsZipB h' z TI TO (rawInt T) (.bool true) → St1 (i + 1) h' → St2 (i + 1) h' → IsTupOf2 h' s.heap.objs.size x1 x2 → h'.objs.size = s.heap.objs.size + 1 →
      (∀ c o, c ≠ z → c ≠ i1 → c ≠ i2 → s.heap.get? c = some o → h'.get? c = some o) → Q (some (.ref s.heap.objs.size)) { s with heap := h', toks := tk }) :
    wpAny (model prog w) A (pyNext (.ref z)) Q E s := by
  have hT0 : s.TypeIs (.ref z) "zip" := ⟨_, hz, rfl⟩
  unfold pyNext
  exact wpAny_bind (wpAny_attempt (wpAny_callSpecial?_slot (name := Str.ofString "__next__") hT0 F.slot_zip_next
    (wpAny_call_entry F.slot_zip_next hT0 F.entry_zip_next
      (zipB_next_item S D1 D2 hz hT hTI st1 st2 hlt1 hlt2 fun x1 x2 h' tk y1 y2 b1 d1 d2 b5 b6 b7 => wpAny_pure (hQ x1 x2 h' tk y1 y2 b1 d1 d2 b5 b6 b7)) (F.args_zip_next_1 _))))
theorem zipB_pyNext_end {b : Bool} {o : Obj} {Q : Option Value → Shared → Prop} (S : ZipSep2 z TI TO i1 i2 fp1 fp2) (D1 : Draws prog w A.in1 i1 fp1 n1 P1 St1) (D2 : Draws prog w A.in1 i2 fp2 n2 P2 St2)
    (hz : IsZipB s.heap z TI TO (rawInt T) (.bool b)) (hT : s.heap.get? T = some o) (hTI : IsTupOf2 s.heap TI (.ref i1) (.ref i2)) (st1 : St1 i s.heap) (st2 : St2 i s.heap) (hle1 : i ≤ n1) (hle2 : i ≤ n2) (hend : i = n1 ∨ i = n2)
    (hQ : ∀ h' tk, (∀ c o, c ≠ z → c ≠ i1 → c ≠ i2 → s.heap.get? c = some o → h'.get? c = some o) → Q none { s with heap := h', toks := tk }) : wpAny (model prog w) A (pyNext (.ref z)) Q E s := by
  have hT0 : s.TypeIs (.ref z) "zip" := ⟨_, hz, rfl⟩
  unfold pyNext
  refine wpAny_bind (wpAny_attempt (wpAny_callSpecial?_slot (name := Str.ofString "__next__") hT0 F.slot_zip_next
    (wpAny_call_entry F.slot_zip_next hT0 F.entry_zip_next (zipB_next_end S D1 D2 hz hT hTI st1 st2 hle1 hle2 hend fun h' tk e hk he => ?_) (F.args_zip_next_1 _))))
  obtain ⟨o, ho, hc⟩ := he
  refine wpAny_bind (wpAny_isInstance (T := "StopIteration") (b := true) ⟨o, ho, hc⟩ isSubtype_stop ?_)
  exact wpAny_pure (hQ _ _ hk)
/-- zip's state, the last pair handed out and held, or none yet -/
def ZSt (TI TO z i1 i2 : Addr) (St1 St2 : Nat → Heap → Prop) (i : Nat) (h : Heap) : Prop :=
  IsTupOf2 h TI (.ref i1) (.ref i2) ∧ (∃ a1 a2, IsTupOf2 h TO a1 a2) ∧ St1 i h ∧ St2 i h ∧ (IsZip h z TI TO .none ∨ ∃ (T : Addr) (b : Bool) (o : Obj), IsZipB h z TI TO (rawInt T) (.bool b) ∧ h.get? T = some o ∧ T ≠ z ∧ T ≠ TO ∧ T ≠ i1 ∧ T ≠ i2)
theorem zst_item {Q : Option Value → Shared → Prop} (S : ZipSep2 z TI TO i1 i2 fp1 fp2) (D1 : Draws prog w A.in1 i1 fp1 n1 P1 St1) (D2 : Draws prog w A.in1 i2 fp2 n2 P2 St2) (hst : ZSt TI TO z i1 i2 St1 St2 i s.heap) (hlt1 : i < n1) (hlt2 : i < n2)
    (hQ : ∀ x1 x2 h' tk, P1 i x1 → P2 i x2 → ZSt TI TO z i1 i2 St1 St2 (i + 1) h' → IsTupOf2 h' s.heap.objs.size x1 x2 → h'.objs.size = s.heap.objs.size + 1 →
      (∀ c o, c ∉ [z, TO, i1, i2] → s.heap.get? c = some o → h'.get? c = some o) → Q (some (.ref s.heap.objs.size)) { s with heap := h', toks := tk }) :
    wpAny (model prog w) A (pyNext (.ref z)) Q E s := by
  obtain ⟨hTI, ⟨a1, a2, hTO⟩, st1, st2, hz⟩ := hst
  have lt : ∀ {c o}, s.heap.get? c = some o → s.heap.objs.size ≠ c := fun e => Nat.ne_of_gt (Heap.lt_size e)
  have l1 : s.heap.objs.size ≠ i1 := by obtain ⟨_, e⟩ := D1.live _ _ st1; exact lt e
  have l2 : s.heap.objs.size ≠ i2 := by obtain ⟨_, e⟩ := D2.live _ _ st2; exact lt e
  rcases hz with hz | ⟨T, b, o, hz, hT, t1, t2, t3, t4⟩
  · refine wpAny_pyNext_zipD2_item S D1 D2 hz hTI hTO st1 st2 hlt1 hlt2 fun x1 x2 h' tk p1 p2 b1 b2 d1 d2 b5 b6 hk => ?_
    exact hQ x1 x2 h' tk p1 p2 ⟨hk _ _ S.TIz S.TITO S.TIi1 S.TIi2 hTI, ⟨_, _, b2⟩, d1, d2, .inr ⟨_, false, _, b1, b5, lt hz, lt hTO, l1, l2⟩⟩ b5 b6 fun c o hc e =>
      hk c o (fun x => hc (by simp [x])) (fun x => hc (by simp [x])) (fun x => hc (by simp [x])) (fun x => hc (by simp [x])) e
  · refine zipB_pyNext_item S D1 D2 hz hT hTI st1 st2 hlt1 hlt2 fun x1 x2 h' tk p1 p2 b1 d1 d2 b5 b6 hk => ?_
    exact hQ x1 x2 h' tk p1 p2 ⟨hk _ _ S.TIz S.TIi1 S.TIi2 hTI, ⟨_, _, hk _ _ S.TOz S.Ti1 S.Ti2 hTO⟩, d1, d2, .inr ⟨T, true, o, b1, hk _ _ t1 t3 t4 hT, t1, t2, t3, t4⟩⟩ b5 b6 fun c o hc e =>
      hk c o (fun x => hc (by simp [x])) (fun x => hc (by simp [x])) (fun x => hc (by simp [x])) e
theorem zst_end {Q : Option Value → Shared → Prop} (S : ZipSep2 z TI TO i1 i2 fp1 fp2) (D1 : Draws prog w A.in1 i1 fp1 n1 P1 St1) (D2 : Draws prog w A.in1 i2 fp2 n2 P2 St2) (hst : ZSt TI TO z i1 i2 St1 St2 i s.heap) (hle1 : i ≤ n1) (hle2 : i ≤ n2) (hend : i = n1 ∨ i = n2)
    (hQ : ∀ h' tk, (∀ c o, c ∉ [z, TO, i1, i2] → s.heap.get? c = some o → h'.get? c = some o) → Q none { s with heap := h', toks := tk }) : wpAny (model prog w) A (pyNext (.ref z)) Q E s := by
  obtain ⟨hTI, ⟨a1, a2, hTO⟩, st1, st2, hz⟩ := hst
  rcases hz with hz | ⟨T, b, o, hz, hT, t1, t2, t3, t4⟩
  · exact wpAny_pyNext_zipD2_end S D1 D2 hz hTI hTO st1 st2 hle1 hle2 hend fun h' tk hk => hQ h' tk fun c o hc e =>
      hk c o (fun x => hc (by simp [x])) (fun x => hc (by simp [x])) (fun x => hc (by simp [x])) (fun x => hc (by simp [x])) e
  · exact zipB_pyNext_end S D1 D2 hz hT hTI st1 st2 hle1 hle2 hend fun h' tk hk => hQ h' tk fun c o hc e =>
      hk c o (fun x => hc (by simp [x])) (fun x => hc (by simp [x])) (fun x => hc (by simp [x])) e
theorem zst_keep {h h' : Heap} (D1 : Draws prog w A i1 fp1 n1 P1 St1) (D2 : Draws prog w A i2 fp2 n2 P2 St2) (hst : ZSt TI TO z i1 i2 St1 St2 i h) {S0 : Addr} (n1' : S0 ∉ fp1) (n2' : S0 ∉ fp2) (nz : S0 ≠ z) (nT : S0 ≠ TO) (nI : S0 ≠ TI) (hk : ∀ c o, c ≠ S0 → h.get? c = some o → h'.get? c = some o) (ex : ∀ o, h.get? S0 = some o → ∃ o', h'.get? S0 = some o') :
    ZSt TI TO z i1 i2 St1 St2 i h' := by
  obtain ⟨hTI, ⟨a1, a2, hTO⟩, st1, st2, hz⟩ := hst
  refine ⟨hk _ _ nI.symm hTI, ⟨a1, a2, hk _ _ nT.symm hTO⟩, D1.frame _ _ _ st1 fun b hb o e => hk b o (fun q => n1' (q ▸ hb)) e, D2.frame _ _ _ st2 fun b hb o e => hk b o (fun q => n2' (q ▸ hb)) e, ?_⟩
  rcases hz with hz | ⟨T, b, o, hz, hT, t⟩
  · exact .inl (hk _ _ nz.symm hz)
  · by_cases q : T = S0
    · subst q
      obtain ⟨o', e'⟩ := ex o hT
      exact .inr ⟨T, b, o', hk _ _ nz.symm hz, e', t⟩
    · exact .inr ⟨T, b, o, hk _ _ nz.symm hz, hk _ _ q hT, t⟩
end
end DL
set_option Elab.async false
set_option linter.all false
set_option maxRecDepth 100000
set_option maxHeartbeats 2000000
namespace DL
open PySem PySem.Spec PyProof.Rows L2
theorem nolen_zip : typeLookup (.type "zip") "__len__" = pure none := by rw [typeLookup_type, builtinLookup_eq_fast]; kernel_rfl
theorem nohint_zip : typeLookup (.type "zip") "__length_hint__" = pure none := by rw [typeLookup_type, builtinLookup_eq_fast]; kernel_rfl
/-- the pairs made so far -/
def PairsAt (xs ys : List V) (H : Hp) (acc : List V) : Prop := ∀ (j : Nat) (x y : V), j < acc.length → xs[j]? = some x → ys[j]? = some y → ∃ (T : Addr) (o : Obj), acc[j]? = some (.ref T) ∧ H T = some (.frz o (.tup [x, y])) ∧ o.dict = none
structure Grown (H H' : Hp) (S0 : Addr) : Prop where
  old : ∀ a o, a ≠ S0 → H a = some o → H' a = some o
section
variable {X : Cx} {A : Around} {pins : List (Addr × Obj)} {σ : L2.St} {z TI TO i1 i2 : Addr} {fp1 fp2 : List Addr} {n1 n2 : Nat} {P1 P2 : Nat → Value → Prop} {St1 St2 : Nat → Heap → Prop} {xs ys : List V} {R : Result → Shared → Prop}
theorem zip_loop {n : Nat} {S0 : Addr} {res : Value} (S : ZipSep2 z TI TO i1 i2 fp1 fp2) (D1 : Draws X.prog X.w A.in1.in1 i1 fp1 n1 P1 St1) (D2 : Draws X.prog X.w A.in1.in1 i2 fp2 n2 P2 St2)
    (hP1 : ∀ i x, P1 i x → ∃ v, xs[i]? = some v ∧ RelV v x) (hP2 : ∀ i x, P2 i x → ∃ v, ys[i]? = some v ∧ RelV v x) (s1 : S0 ∉ fp1) (s2 : S0 ∉ fp2) (sz : S0 ≠ z) (sT : S0 ≠ TO) (sI : S0 ≠ TI)
    (hn : n = min n1 n2) (hz : n ≤ sizeLine) : ∀ (k i : Nat) (s : Shared) (H H0 : Hp) (acc : List V), n - i = k → i ≤ n → Inv X pins σ H s → H S0 = some (.lst acc) → acc.length = i → PairsAt xs ys H acc → (∀ b ∈ [z, TO, i1, i2], FpOk X pins H b) → ZSt TI TO z i1 i2 St1 St2 i s.heap → Grown H0 H S0 →
      (∀ s' H' acc', Inv X pins σ H' s' → H' S0 = some (.lst acc') → acc'.length = n → PairsAt xs ys H' acc' → Grown H0 H' S0 → R (.ok (.ret res)) s') → codeAny (model X.prog X.w) A (.builtin "list.extend.loop" ⟨[.ref S0, .ref z, res], []⟩) R s := by
  intro k
  induction k with
  | zero =>
    intro i s H H0 acc hk hi I hS hl hp hf hst hg hR
    have hin : i = n := by omega
    subst hin
    refine codeAny_builtin F.entry_extend_loop ?_
    rw [Around.under_plainId F.plain_extend_loop _]
    show wpAny _ A.in1 (pyNext (.ref z) >>= _) _ _ s
    refine wpAny_bind (zst_end S D1 D2 hst (by omega) (by omega) (by omega) fun h' tk hk' => ?_)
    exact wpAny_pure (hR _ H acc (I.turnedL (t' := tk) hk' hf) hS hl hp hg)
  | succ k ih =>
    intro i s H H0 acc hk hi I hS hl hp hf hst hg hR
    refine codeAny_builtin F.entry_extend_loop ?_
    rw [Around.under_plainId F.plain_extend_loop _]
    show wpAny _ A.in1 (pyNext (.ref z) >>= _) _ _ s
    obtain ⟨hTI, ⟨a1, a2, hTO⟩, st1, st2, hzz⟩ := id hst
    have lt : ∀ {c o}, s.heap.get? c = some o → c < s.heap.objs.size := fun e => Heap.lt_size e
    have l1 : i1 < s.heap.objs.size := by obtain ⟨_, e⟩ := D1.live _ _ st1; exact lt e
    have l2 : i2 < s.heap.objs.size := by obtain ⟨_, e⟩ := D2.live _ _ st2; exact lt e
    have lz : z < s.heap.objs.size := by
      rcases hzz with e | ⟨_, _, _, e, _⟩
      · exact lt e
      · exact lt e
    have lT : TO < s.heap.objs.size := lt hTO
    have lS : S0 < s.heap.objs.size := I.hok.lt hS
    refine wpAny_bind (zst_item S D1 D2 hst (by omega) (by omega) fun x1 x2 h' tk p1 p2 hst' hT hsz hk' => ?_)
    obtain ⟨v1, e1, r1⟩ := hP1 _ _ p1
    obtain ⟨v2, e2, r2⟩ := hP2 _ _ p2
    have new : ObjOk X.prog X.w (upd H s.heap.objs.size (.frz { cls := .type "tuple", data := .seq #[x1, x2] } (.tup [v1, v2]))) h' s.heap.objs.size (.frz { cls := .type "tuple", data := .seq #[x1, x2] } (.tup [v1, v2])) :=
      ⟨hT, by show 2 ≤ sizeLine; decide, [x1, x2], .cons r1 (.cons r2 .nil), ⟨_, hT, rfl, _, rfl⟩⟩
    have I1 : Inv X pins σ (upd H s.heap.objs.size (.frz { cls := .type "tuple", data := .seq #[x1, x2] } (.tup [v1, v2]))) { s with heap := h', toks := tk } := I.turnedNew (t' := tk) hk' hf (Nat.le_refl _) new
    have hS1 : upd H s.heap.objs.size (.frz { cls := .type "tuple", data := .seq #[x1, x2] } (.tup [v1, v2])) S0 = some (.lst acc) := (upd_ne (Nat.ne_of_lt lS)).trans hS
    obtain ⟨hzl, its, nn, rv, hlen, e⟩ := I1.lstM hS1
    show wpAny _ A.in1 (updateSeq S0 (·.push (.ref s.heap.objs.size)) >>= _) _ _ _
    refine wpAny_bind ?_
    have I2 : Inv X pins σ (upd (upd H s.heap.objs.size (.frz { cls := .type "tuple", data := .seq #[x1, x2] } (.tup [v1, v2]))) S0 (.lst (acc ++ [.ref s.heap.objs.size]))) { s with heap := h'.update S0 (Obj.mapSeq (·.push (.ref s.heap.objs.size))), toks := tk } :=
      I1.lset (its := its) (its' := its ++ [.ref s.heap.objs.size]) (f := (·.push (.ref s.heap.objs.size))) (t' := tk) hS1 e (by simp) (rv.append (.cons (show L2.RelV (.ref s.heap.objs.size) (.ref s.heap.objs.size) from rfl) .nil)) (by rw [List.length_append, List.length_singleton]; omega)
    have uN : ∀ {c : Addr}, c < s.heap.objs.size → c ≠ S0 → upd (upd H s.heap.objs.size (.frz { cls := .type "tuple", data := .seq #[x1, x2] } (.tup [v1, v2]))) S0 (.lst (acc ++ [.ref s.heap.objs.size])) c = H c := fun hc hn' => (upd_ne hn').trans (upd_ne (Nat.ne_of_lt hc))
    have hT2 : upd (upd H s.heap.objs.size (.frz { cls := .type "tuple", data := .seq #[x1, x2] } (.tup [v1, v2]))) S0 (.lst (acc ++ [.ref s.heap.objs.size])) s.heap.objs.size = some (.frz { cls := .type "tuple", data := .seq #[x1, x2] } (.tup [v1, v2])) := (upd_ne (Nat.ne_of_gt lS)).trans upd_same
    refine wpAny_updateSeq e rfl (wpAny_pure ⟨plainId_quiet F.plain_extend_loop _, ih (i + 1) _ _ H0 (acc ++ [.ref s.heap.objs.size]) (by omega) (by omega) I2 upd_same (by rw [List.length_append, List.length_singleton]; omega) (fun j x y hj ex ey => ?_) (fun b hb => ?_) ?_ ?_ hR⟩)
    · rw [List.length_append, List.length_singleton] at hj
      by_cases hjl : j < acc.length
      · obtain ⟨T, oT, q1, q2, q3⟩ := hp j x y hjl ex ey
        have hTlt : T < s.heap.objs.size := I.hok.lt q2
        refine ⟨T, oT, by rw [List.getElem?_append_left hjl]; exact q1, (uN hTlt fun q => ?_).trans q2, q3⟩
        subst q; rw [hS] at q2; cases q2
      · have ej : j = i := by omega
        subst ej
        rw [e1] at ex; rw [e2] at ey
        cases ex; cases ey
        refine ⟨s.heap.objs.size, _, ?_, hT2, rfl⟩
        rw [List.getElem?_append_right (by omega), hl]
        simp
    · obtain ⟨f1, f2⟩ := hf b hb
      have hbl : b < s.heap.objs.size := by
        have e' : b = z ∨ b = TO ∨ b = i1 ∨ b = i2 := by simpa using hb
        rcases e' with q | q | q | q <;> (rw [q]; assumption)
      have hbS : b ≠ S0 := fun q => by subst q; rw [hS] at f1; cases f1
      exact ⟨(uN hbl hbS).trans f1, f2⟩
    · exact zst_keep D1 D2 hst' s1 s2 sz sT sI (fun c o hc e' => (Heap.get?_update_other _ _ (Ne.symm hc)).trans e') fun o e' => ⟨_, Heap.get?_update_self _ e rfl⟩
    · refine ⟨fun a o ha e' => ?_⟩
      have e2' := hg.old a o ha e'
      exact (uN (I.hok.lt e2') ha).trans e2'
/-- list(z), z a zip object -/
theorem zip_extend {n : Nat} {S0 : Addr} {res : Value} {s : Shared} {H : Hp} (S : ZipSep2 z TI TO i1 i2 fp1 fp2) (D1 : Draws X.prog X.w A.in1.in1 i1 fp1 n1 P1 St1) (D2 : Draws X.prog X.w A.in1.in1 i2 fp2 n2 P2 St2)
    (hP1 : ∀ i x, P1 i x → ∃ v, xs[i]? = some v ∧ RelV v x) (hP2 : ∀ i x, P2 i x → ∃ v, ys[i]? = some v ∧ RelV v x) (s1 : S0 ∉ fp1) (s2 : S0 ∉ fp2) (sz : S0 ≠ z) (sT : S0 ≠ TO) (sI : S0 ≠ TI)
    (hn : n = min n1 n2) (hz : n ≤ sizeLine) (I : Inv X pins σ H s) (hS : H S0 = some (.lst [])) (hf : ∀ b ∈ [z, TO, i1, i2], FpOk X pins H b) (hst : ZSt TI TO z i1 i2 St1 St2 0 s.heap) (h0 : IsZip s.heap z TI TO .none)
    (hR : ∀ s' H' acc', Inv X pins σ H' s' → H' S0 = some (.lst acc') → acc'.length = n → PairsAt xs ys H' acc' → Grown H H' S0 → R (.ok (.ret res)) s') :
    wpAny (model X.prog X.w) A.in1 (Builtin.List.listExtendWith (.ref S0) (.ref z) res)
      (fun fin s' => match fin with | .done f => R (.ok f) s' | .again c' => c'.quiet = true ∧ codeAny (model X.prog X.w) A c' R s') (fun e s' => R (.error e) s') s := by
  have hT : s.TypeIs (.ref z) "zip" := ⟨_, h0, rfl⟩
  unfold Builtin.List.listExtendWith
  refine wpAny_bind (wpAny_typeOf hT ?_)
  have h1 : Builtin.List.listSameRef (.ref S0) (.ref z) = false := by simp [Builtin.List.listSameRef, sz]
  have h2 : (Value.type "zip" == Value.type "list") = false := by decide
  have h3 : (Value.type "zip" == Value.type "tuple") = false := by decide
  simp only [h1, h2, h3, Bool.or_false, Bool.false_eq_true, if_false]
  refine wpAny_bind (wpAny_pyIter_zip h0 ?_)
  refine wpAny_bind (wpAny_holding ?_)
  unfold Builtin.List.listLengthHint
  refine wpAny_bind (wpAny_specialOf hT nolen_zip ?_)
  show wpAny _ A.in1 (specialOf (Value.ref z) (Str.ofString "__length_hint__") >>= _) _ _ _
  refine wpAny_bind (wpAny_specialOf hT nohint_zip ?_)
  refine wpAny_pure ?_
  show wpAny _ A.in1 (rule "list.extend.makes-room" >>= fun _ => Builtin.List.listTouch (.ref S0) >>= fun _ =>
    again (.builtin "list.extend.loop" ⟨[.ref S0, .ref z, res], []⟩)) _ _ _
  refine wpAny_bind (wpAny_rule ?_)
  refine wpAny_bind ?_
  show wpAny _ A.in1 (updateSeq S0 (·.push .none) >>= fun _ => updateSeq S0 (·.pop)) _ _ _
  obtain ⟨_, its, nn, rv, hlen, e⟩ := I.lstM hS
  have hits : its = [] := by cases its with | nil => rfl | cons _ _ => simp at hlen
  subst hits
  refine wpAny_bind (wpAny_updateSeq e rfl ?_)
  have e2 := Heap.get?_update_self (Obj.mapSeq (·.push Value.none)) e rfl
  refine wpAny_updateSeq (hz := by show 1 ≤ sizeLine; decide) e2 rfl ?_
  have I1 : Inv X pins σ (upd H S0 (.lst [.non])) { s with heap := s.heap.update S0 (Obj.mapSeq (·.push Value.none)) } := I.lset (its := []) (its' := [.none]) (f := (·.push Value.none)) (t' := s.toks) hS e (by simp) (.cons rfl .nil) (by show 1 ≤ sizeLine; decide)
  have I2 : Inv X pins σ (upd (upd H S0 (.lst [.non])) S0 (.lst [])) { s with heap := (s.heap.update S0 (Obj.mapSeq (·.push Value.none))).update S0 (Obj.mapSeq (·.pop)) } := I1.lset (its := [.none]) (its' := []) (f := (·.pop)) (t' := s.toks) upd_same e2 (by simp) .nil (by show 0 ≤ sizeLine; decide)
  have eu : upd (upd H S0 (.lst [.non])) S0 (.lst []) = H := by
    funext c
    by_cases q : c = S0
    · subst q; rw [upd_same, hS]
    · rw [upd_ne q, upd_ne q]
  rw [eu] at I2
  have oth : ∀ c o, c ≠ S0 → s.heap.get? c = some o → ((s.heap.update S0 (Obj.mapSeq (·.push Value.none))).update S0 (Obj.mapSeq (·.pop))).get? c = some o := fun c o hc q => (Heap.get?_update_other _ _ (Ne.symm hc)).trans ((Heap.get?_update_other _ _ (Ne.symm hc)).trans q)
  refine wpAny_pure ⟨plainId_quiet F.plain_extend_loop _, zip_loop S D1 D2 hP1 hP2 s1 s2 sz sT sI hn hz n 0 _ H H [] rfl (Nat.zero_le _) I2 hS rfl (fun j _ _ hj => absurd hj (Nat.not_lt_zero _)) hf ?_ ⟨fun _ _ _ q => q⟩ hR⟩
  exact zst_keep D1 D2 hst s1 s2 sz sT sI oth fun o _ => ⟨_, Heap.get?_update_self _ e2 rfl⟩
end
end DL
set_option Elab.async false
set_option linter.all false
set_option maxRecDepth 100000
set_option maxHeartbeats 2000000
namespace DL
open PySem PySem.Spec PyProof.Rows L2
theorem zapart_sep {z TI TO i1 i2 a b : Addr} (D : ZipApart z TI TO i1 i2 a b) : ZipSep2 z TI TO i1 i2 [i1, a] [i2, b] where
  TIz := D.TIz
  TOz := D.TOz
  TITO := D.TITO
  TIi1 := D.TIi1
  mem1 := by simp
  zf1 := by simp [D.i1z.symm, D.l1z.symm]
  Tf1 := by simp [D.TOi1, D.l1TO.symm]
  TIi2 := D.TIi2
  mem2 := by simp
  zf2 := by simp [D.i2z.symm, D.l2z.symm]
  Tf2 := by simp [D.TOi2, D.l2TO.symm]
  sep1_2 := by simp [D.i12, D.l2i1.symm]
  sep2_1 := by simp [D.i12.symm, D.l1i2.symm]
theorem vals_get' : ∀ {xs : List V} {us : List Value} {i : Nat} {u : Value}, Vals xs us → us[i]? = some u → ∃ x, xs[i]? = some x ∧ RelV x u
  | [], _, i, u, .nil, e => by simp at e
  | _ :: _, _, 0, u, .cons h _, e => by simp at e; subst e; exact ⟨_, rfl, h⟩
  | _ :: _, _, i + 1, u, .cons _ h, e => by
    obtain ⟨x, e1, r⟩ := vals_get' (i := i) (u := u) h (by simpa using e)
    exact ⟨x, by simpa using e1, r⟩
section
variable {X : Cx} {pins : List (Addr × Obj)} {σ : L2.St} {H : Hp} {s : Shared} {E : Value → Shared → Prop} {xs ys : List V} {a b : Addr}
theorem list_zip_tail {h' : Heap} {Q : Value → Shared → Prop} {its its2 : List Value} {P1 P2 : Nat → Value → Prop} {St1 St2 : Nat → Heap → Prop} {n1 n2 : Nat} (hh : X.A.handled = none) (I : Inv X pins σ H s) (la : a < s.heap.objs.size) (lb : b < s.heap.objs.size)
    (hz : IsZip h' (s.heap.objs.size + 4) (s.heap.objs.size + 2) (s.heap.objs.size + 3) .none) (hTI : IsPair h' (s.heap.objs.size + 2) (.ref s.heap.objs.size) (.ref (s.heap.objs.size + 1))) (hTO : IsPair h' (s.heap.objs.size + 3) .none .none)
    (hsz : h'.objs.size = s.heap.objs.size + 5) (hk : ∀ c o, s.heap.get? c = some o → h'.get? c = some o)
    (D1 : Draws X.prog X.w X.A.in1.in1.in1 s.heap.objs.size [s.heap.objs.size, a] n1 P1 St1) (D2 : Draws X.prog X.w X.A.in1.in1.in1 (s.heap.objs.size + 1) [s.heap.objs.size + 1, b] n2 P2 St2) (st1 : St1 0 h') (st2 : St2 0 h')
    (hP1 : ∀ i x, P1 i x → ∃ v, xs[i]? = some v ∧ RelV v x) (hP2 : ∀ i x, P2 i x → ∃ v, ys[i]? = some v ∧ RelV v x) (hn1 : n1 = xs.length) (hn2 : n2 = ys.length) (hsz1 : xs.length ≤ sizeLine)
    (hQ : ∀ s' H' S0 acc, Inv X pins σ H' s' → H S0 = none → H' S0 = some (.lst acc) → acc.length = min xs.length ys.length → PairsAt xs ys H' acc → (∀ c o, H c = some o → H' c = some o) → Q (.ref S0) s') :
    wpAny (model X.prog X.w) X.A (call (.type "list") [.ref (s.heap.objs.size + 4)]) Q E { s with heap := h' } := by
  have I2 : Inv X pins σ H { s with heap := h' } := I.kept (t' := s.toks) hk
  refine callType_codes (Q₁ := fun obj s₁ => obj = .ref h'.objs.size ∧ s₁ = { s with heap := h'.push { cls := .type "list", data := .seq #[] } }) F.called_list (F.typeCall_list_1 _) F.entry_list_init (code_list_new _ ⟨rfl, rfl⟩) fun obj s₁ h₁ => ?_
  obtain ⟨rfl, rfl⟩ := h₁
  have hS : (h'.push { cls := .type "list", data := .seq #[] }).get? h'.objs.size = some { cls := .type "list", data := .seq #[] } := Heap.get?_push_size _ rfl
  refine ⟨⟨_, hS, rfl⟩, F.args_list_init_2 _ _, ?_⟩
  have I3 : Inv X pins σ (upd H h'.objs.size (.lst [])) { s with heap := h'.push { cls := .type "list", data := .seq #[] } } := I2.lnew (its := []) (t' := s.toks) .nil (by show 0 ≤ sizeLine; decide)
  show wpAny _ X.A.in1.in1 (do let old ← Builtin.List.listItems (.ref h'.objs.size); Builtin.List.listUpdate (.ref h'.objs.size) (fun _ => #[]); letGo old.toList.reverse; Builtin.List.listExtendWith (.ref h'.objs.size) (.ref (s.heap.objs.size + 4)) .none) _ _ _
  refine wpAny_bind ?_
  unfold Builtin.List.listItems
  refine wpAny_bind (wpAny_seqItems hS rfl (wpAny_pure ?_))
  show wpAny _ X.A.in1.in1 (updateSeq h'.objs.size (fun _ => #[]) >>= fun _ => letGo (#[] : Array Value).toList.reverse >>= fun _ => Builtin.List.listExtendWith (.ref h'.objs.size) (.ref (s.heap.objs.size + 4)) .none) _ _ _
  refine wpAny_bind (wpAny_updateSeq hS rfl ?_)
  refine wpAny_bind (wpAny_letGo ?_)
  have I4 : Inv X pins σ (upd (upd H h'.objs.size (.lst [])) h'.objs.size (.lst [])) { s with heap := (h'.push { cls := .type "list", data := .seq #[] }).update h'.objs.size (Obj.mapSeq (fun _ => (#[] : Array Value))) } :=
    I3.lset (its := []) (its' := []) (f := fun _ => #[]) (t' := s.toks) upd_same hS (by simp) .nil (by show 0 ≤ sizeLine; decide)
  have eu : upd (upd H h'.objs.size (.lst [])) h'.objs.size (.lst []) = upd H h'.objs.size (.lst []) := by
    funext c
    by_cases q : c = h'.objs.size
    · subst q; rw [upd_same, upd_same]
    · rw [upd_ne q]
  rw [eu] at I4
  have up : ∀ c o, h'.get? c = some o → ((h'.push { cls := .type "list", data := .seq #[] }).update h'.objs.size (Obj.mapSeq (fun _ => (#[] : Array Value)))).get? c = some o := fun c o e =>
    (Heap.get?_update_other _ _ (Ne.symm (Nat.ne_of_lt (Heap.lt_size e)))).trans (Heap.get?_push_of_some _ e)
  have D := PySem.W.ktu_apart s.heap.objs.size a b la lb
  have S := zapart_sep D
  have nS : ∀ c, c < h'.objs.size → h'.objs.size ≠ c := fun c h => Nat.ne_of_gt h
  have g1 : h'.objs.size ∉ [s.heap.objs.size, a] := by
    intro q
    rcases List.mem_cons.mp q with q | q
    · rw [hsz] at q; exact absurd q (by show ¬ (s.heap.objs.size + 5 = s.heap.objs.size); omega)
    · have q := List.mem_singleton.mp q
      rw [hsz] at q
      have la' : a < s.heap.objs.size := la
      rw [← q] at la'
      exact Nat.lt_irrefl _ (Nat.lt_of_le_of_lt (Nat.le_add_right s.heap.objs.size 5) la')
  have g2 : h'.objs.size ∉ [s.heap.objs.size + 1, b] := by
    intro q
    rcases List.mem_cons.mp q with q | q
    · rw [hsz] at q; exact absurd q (by show ¬ (s.heap.objs.size + 5 = s.heap.objs.size + 1); omega)
    · have q := List.mem_singleton.mp q
      rw [hsz] at q
      have lb' : b < s.heap.objs.size := lb
      rw [← q] at lb'
      exact Nat.lt_irrefl _ (Nat.lt_of_le_of_lt (Nat.le_add_right s.heap.objs.size 5) lb')
  have g3 : h'.objs.size ≠ s.heap.objs.size + 4 := by rw [hsz]; omega
  have g4 : h'.objs.size ≠ s.heap.objs.size + 3 := by rw [hsz]; omega
  have g5 : h'.objs.size ≠ s.heap.objs.size + 2 := by rw [hsz]; omega
  have g6 : min n1 n2 ≤ sizeLine := by rw [hn1]; exact Nat.le_trans (Nat.min_le_left ..) hsz1
  refine zip_extend (X := X) (A := X.A.in1) (R := wants (fun r s₂ => r = Value.none ∧ Q (Value.ref h'.objs.size) s₂) E) (n := min n1 n2) (xs := xs) (ys := ys) S D1 D2 hP1 hP2 g1 g2 g3 g4 g5 rfl g6 I4 upd_same (fun c hc => ?_) ⟨up _ _ hTI, ⟨_, _, up _ _ hTO⟩, D1.frame _ _ _ st1 fun b _ o e => up b o e, D2.frame _ _ _ st2 fun b _ o e => up b o e, .inl (up _ _ hz)⟩ (up _ _ hz) fun s' H' acc' I' hS' hl' hp' hg' => ?_
  · have e' : c = s.heap.objs.size + 4 ∨ c = s.heap.objs.size + 3 ∨ c = s.heap.objs.size ∨ c = s.heap.objs.size + 1 := by simpa using hc
    have hle : s.heap.objs.size ≤ c := by rcases e' with q | q | q | q <;> (rw [q]; omega)
    have hne : c ≠ h'.objs.size := by
      rw [hsz]
      rcases e' with q | q | q | q <;> rw [q]
      · exact fun z => absurd (show (s.heap.objs.size + 4 : Nat) = s.heap.objs.size + 5 from z) (by omega)
      · exact fun z => absurd (show (s.heap.objs.size + 3 : Nat) = s.heap.objs.size + 5 from z) (by omega)
      · exact fun z => absurd (show (s.heap.objs.size : Nat) = s.heap.objs.size + 5 from z) (by omega)
      · exact fun z => absurd (show (s.heap.objs.size + 1 : Nat) = s.heap.objs.size + 5 from z) (by omega)
    exact I.fpOk hle ((upd_ne hne).trans (I.hok.fresh hle))
  · have hne : ∀ c o, H c = some o → c ≠ h'.objs.size := fun c o e => by
      have hl : c < s.heap.objs.size := I.hok.lt e
      rw [hsz]
      exact Nat.ne_of_lt (Nat.lt_of_lt_of_le hl (Nat.le_add_right _ _))
    exact ⟨rfl, hQ s' H' h'.objs.size acc' I' (I.hok.fresh (by rw [hsz]; exact Nat.le_add_right _ _)) hS' (by rw [hl', hn1, hn2]) hp' fun c o e => hg'.old c o (hne c o e) ((upd_ne (hne c o e)).trans e)⟩
theorem call_list_zip {Q : Value → Shared → Prop} (hh : X.A.handled = none) (I : Inv X pins σ H s) (h : (SqL X.KW H a xs ∧ SqL X.KW H b ys) ∨ (SqT X.KW H a xs ∧ SqT X.KW H b ys))
    (hQ : ∀ s' H' S0 acc, Inv X pins σ H' s' → H S0 = none → H' S0 = some (.lst acc) → acc.length = min xs.length ys.length → PairsAt xs ys H' acc → (∀ c o, H c = some o → H' c = some o) → Q (.ref S0) s') :
    wpAny (model X.prog X.w) X.A (call (.type "zip") [.ref a, .ref b]) (fun v s1 => wpAny (model X.prog X.w) X.A (call (.type "list") [v]) Q E s1) E s := by
  have hh1 : X.A.in1.in1.in1.handled = none := hh
  rcases h with ⟨hx, hy⟩ | ⟨hx, hy⟩
  · obtain ⟨its, rv, p1, hz1⟩ := I.list hx
    obtain ⟨its2, rv2, p2, hz2⟩ := I.list hy
    have la : a < s.heap.objs.size := p1.lt
    have lb : b < s.heap.objs.size := p2.lt
    refine call_zip_2 p1.isList p2.isList fun h' hz hTI hTO h1 h2 hsz hk => ?_
    refine list_zip_tail (its := its) (its2 := its2) hh I la lb hz hTI hTO hsz hk (Draws.list hh1 s.heap.objs.size a (Nat.ne_of_lt la) its.toArray) (Draws.list hh1 (s.heap.objs.size + 1) b (Nat.ne_of_lt (Nat.lt_succ_of_lt lb)) its2.toArray)
      ⟨h1, p1.isList.at fun o e => hk _ o e⟩ ⟨h2, p2.isList.at fun o e => hk _ o e⟩ (fun i x e => ?_) (fun i x e => ?_) (by rw [List.size_toArray]; exact rv.length.symm) (by rw [List.size_toArray]; exact rv2.length.symm) hz1 hQ
    · exact vals_get' rv (by simpa using e)
    · exact vals_get' rv2 (by simpa using e)
  · obtain ⟨its, rv, p1, hz1⟩ := I.tuple hx
    obtain ⟨its2, rv2, p2, hz2⟩ := I.tuple hy
    have q1 : s.heap.IsTuple a its.toArray := p1
    have q2 : s.heap.IsTuple b its2.toArray := p2
    obtain ⟨o1, ho1, _⟩ := id q1
    obtain ⟨o2, ho2, _⟩ := id q2
    have la : a < s.heap.objs.size := Heap.lt_size ho1
    have lb : b < s.heap.objs.size := Heap.lt_size ho2
    refine RZ.call_zipT q1 q2 fun h' hz hTI hTO h1 h2 hsz hk => ?_
    refine list_zip_tail (its := its) (its2 := its2) hh I la lb hz hTI hTO hsz hk (Draws.tuple hh1 s.heap.objs.size a (Nat.ne_of_lt la) its.toArray) (Draws.tuple hh1 (s.heap.objs.size + 1) b (Nat.ne_of_lt (Nat.lt_succ_of_lt lb)) its2.toArray)
      ⟨h1, q1.at fun o e => hk _ o e⟩ ⟨h2, q2.at fun o e => hk _ o e⟩ (fun i x e => ?_) (fun i x e => ?_) (by rw [List.size_toArray]; exact rv.length.symm) (by rw [List.size_toArray]; exact rv2.length.symm) hz1 hQ
    · exact vals_get' rv (by simpa using e)
    · exact vals_get' rv2 (by simpa using e)
end
def isLW : Wd → Bool
  | .ref _ => true
  | .rol _ => true
  | _ => false
/-- list(zip(a, b)), both lists or both tuples -/
def lzO : OpN := fun ws m => match ws with
  | [a, b] => if (isLW a == isLW b) = true then (match seqOf m a, seqOf m b with
    | some xs, some ys => some (.ref m.cells.length, m.push (.lst ((xs.zip ys).map fun p => mkTup [p.1, p.2])))
    | _, _ => none) else none
  | _ => none
section
variable {K : Kw} {W : L2.WX} {ι : List Addr} {H : Hp} {σ : L2.St} {m : Mm} {X : Cx}
theorem seqOf_kind {w : Wd} {ws : List Wd} {v : V} (mo : MemOk K ι m H) (e : seqOf m w = some ws) (r : RelW K ι H w v) : ∃ a vs, v = .ref a ∧ (if isLW w = true then SqL K H a vs else SqT K H a vs) ∧ RelWs K ι H ws vs := by
  cases w with
  | d x =>
    obtain ⟨a, vs, h1, h2, h3⟩ := tupOf_ok (w := .d x) (ws := ws) (by cases x <;> first | exact e | cases e) r
    exact ⟨a, vs, h1, h2, h3⟩
  | ref n =>
    cases r with
    | ref hι =>
      have e' : (match m.cells[n]? with | some (.lst xs) => some xs | _ => none) = some ws := e
      cases qc : m.cells[n]? with
      | none => rw [qc] at e'; cases e'
      | some c =>
        rw [qc] at e'
        cases c with
        | lst xs =>
          cases e'
          obtain ⟨vs, h1, h2⟩ := mo.cell n _ _ hι qc
          exact ⟨_, vs, rfl, .inl (.inl h1), h2⟩
        | dct _ => cases e'
        | ndc _ => cases e'
        | gdc _ => cases e'
        | ins _ _ => cases e'
        | tab _ _ => cases e'
  | tup xs =>
    obtain ⟨a, vs, h1, h2, h3⟩ := tupOf_ok (w := .tup xs) (ws := ws) e r
    exact ⟨a, vs, h1, h2, h3⟩
  | rol xs =>
    cases e
    cases r with
    | rol hr hs => exact ⟨_, _, rfl, hr.sqL, hs⟩
  | v x => cases e
theorem pairs_ok : ∀ {xs ys : List Wd} {vs us acc : List V}, RelWs K ι H xs vs → RelWs K ι H ys us → acc.length = min vs.length us.length → PairsAt vs us H acc → RelWs K ι H ((xs.zip ys).map fun p => mkTup [p.1, p.2]) acc
  | _, _, _, _, acc, .nil, _, hl, _ => by
    have : acc = [] := List.eq_nil_of_length_eq_zero (by rw [hl]; simp [List.length])
    subst this; exact .nil
  | _, _, _, _, acc, .cons _ _, .nil, hl, _ => by
    have : acc = [] := List.eq_nil_of_length_eq_zero (by rw [hl]; simp [List.length])
    subst this; exact .nil
  | _, _, _, _, [], .cons _ _, .cons _ _, hl, _ => by simp at hl
  | _, _, _, _, c :: acc, .cons r1 rr, .cons r2 rr2, hl, hp => by
    obtain ⟨T, oT, h1, h2, h3⟩ := hp 0 _ _ (by simp) rfl rfl
    have hc : c = .ref T := by simpa using h1
    subst hc
    refine .cons (mkTup_ok ⟨.inl (.inr ⟨oT, h2⟩), .inl ⟨oT, _, h2, h3⟩⟩ (.cons r1 (.cons r2 .nil))) (pairs_ok rr rr2 (by simp at hl; omega) fun j x y hj ex ey => ?_)
    obtain ⟨T', o', q1, q2⟩ := hp (j + 1) x y (by simp; omega) (by simpa using ex) (by simpa using ey)
    exact ⟨T', o', by simpa using q1, q2⟩
theorem de_lz {a b : Expr} {fa : Em (List Wd)} {p p2 pos pos2 : Pos} (hc : X.calm = true) (hg : Gl X "list") (hm : X.mg "list" = none) (hg2 : Gl X "zip") (hm2 : X.mg "zip" = none) (ha : PA X [a, b] (tA X.KW W fa))
    (hs : starEach [a, b] X.env = (false, eval a X.env) :: starEach [b] X.env := by rfl) (hpl : (backTo pos2 (starEach [b] X.env)).any (·.1) = false := by rfl)
    (na : starEach [.Call (.Name "zip" p2) [a, b] [] pos2] X.env = (false, eval (.Call (.Name "zip" p2) [a, b] [] pos2) X.env) :: starEach [] X.env := by rfl) :
    PE X (.Call (.Name "list" p) [.Call (.Name "zip" p2) [a, b] [] pos2] [] pos) (tE X.KW W (eN lzO fa)) := by
  refine ⟨fun pins s σ H Q I h => ?_⟩
  obtain ⟨ι, env, m, eo, mo, pp⟩ := h
  have h2 : tA X.KW W fa σ H (fun vs H1 => ∃ ι1 m1 ws, MemOk X.KW ι1 m1 H1 ∧ RelWs X.KW ι1 H1 ws vs ∧ Post X.KW W0 (RelW X.KW) ι1 H1 σ Q (Rs.of (lzO ws m1))) :=
    Post.bind eo mo pp fun ι1 H1 ws xs m1 st1 mo1 eo1 ra p1 => ⟨ι1, m1, ws, mo1, ra, p1.w0⟩
  refine Call_ (ld_blt I hg hm boot_list (callWith_type1 (args_cons (Call_ (ld_blt I hg2 hm2 PyProof.Rows.boot_zip (PyProof.Rows.callWith_type1 (thn (ha.run pos2 pins s σ H _ I h2) fun us s1 ⟨vs, H1, I1, r1, q1⟩ => ?_) hs hpl))) na) na))
  obtain ⟨ι1, m1, ws, mo1, ra, p1⟩ := q1
  unfold lzO at p1
  split at p1
  · rename_i wa wb
    by_cases hk : (isLW wa == isLW wb) = true
    · rw [if_pos hk] at p1
      have hk' : isLW wa = isLW wb := by simpa using hk
      split at p1
      · rename_i xs ys e1 e2
        cases ra with
        | cons ra rr =>
          cases rr with
          | cons rb rr =>
            cases rr
            obtain ⟨aa, va, rfl, ha1, ha2⟩ := seqOf_kind mo1 e1 ra
            obtain ⟨bb, vb, rfl, hb1, hb2⟩ := seqOf_kind mo1 e2 rb
            cases r1 with
            | cons r rr =>
              cases rr with
              | cons r' rr =>
                cases rr
                cases r
                cases r'
                have hseq : (SqL X.KW H1 aa va ∧ SqL X.KW H1 bb vb) ∨ (SqT X.KW H1 aa va ∧ SqT X.KW H1 bb vb) := by
                  cases qa : isLW wa with
                  | true =>
                    have qb : isLW wb = true := hk'.symm.trans qa
                    rw [qa] at ha1; rw [qb] at hb1
                    exact .inl ⟨ha1, hb1⟩
                  | false =>
                    have qb : isLW wb = false := hk'.symm.trans qa
                    rw [qa] at ha1; rw [qb] at hb1
                    exact .inr ⟨ha1, hb1⟩
                refine thn (call_list_zip (Q := EP X pins σ Q) (E := X.xe) (I1.ok.hd hc) I1 hseq fun s' H' S0 acc I' hn hS hl hp hg => ?_) fun v s1 h => args_nil h
                have st : Stp ι1 H1 ι1 H' := ⟨List.prefix_refl _, fun c hc1 hc2 => absurd hc1 hc2, fun c o e _ => hg c o e⟩
                have hsame : ∀ c ∈ ι1, H' c = H1 c := fun c hc1 => by
                  cases q : H1 c with
                  | none => exact absurd q (mo1.apart c hc1).2.2.1
                  | some o => exact hg c o q
                have mo2 := mo1.stay (ι' := ι1) st hsame
                have hnS : S0 ∉ ι1 := mo1.new hn
                have rx' := ha2.step mo1.apart st
                have ry' := hb2.step mo1.apart st
                have rp := pairs_ok rx' ry' hl hp
                have mo3 := mo2.adopt hS hnS rp
                refine ⟨.ref S0, H', I', rfl, p1 (ι1 ++ [S0]) H' (.ref S0) ⟨List.prefix_append _ _, fun c hc1 hc2 => ?_, fun c o e _ => hg c o e⟩ mo3 (.ref ?_)⟩
                · rcases List.mem_append.mp hc1 with q | q
                  · exact absurd q hc2
                  · rw [List.mem_singleton.mp q]; exact hn
                · rw [← mo1.len]; simp
      · exact p1.elim
    · rw [if_neg hk] at p1; exact p1.elim
  · exact p1.elim
end
end DL
set_option Elab.async false
set_option linter.all false
set_option maxRecDepth 100000
set_option maxHeartbeats 2000000
namespace DL
open PySem PySem.Spec PyProof.Rows L2
/-- a def that is known by its denotation -/
def Kn (P : Program) (w : World) (K : PySem.W.Frag) (mg : Str → Option Value) (base : Heap) (k n : Nat) (x : Str) (ps : List Str) (F : Fn) : Prop :=
  ∃ (f : Addr) (fd : FuncData), mg x = some (.ref f) ∧ PySem.W.keepIn K (.ref f) = true ∧ Binds K fd ps [] ∧ FnOk P w K mg base (L2.CX P w) k f fd ps (spD ⟨K, w⟩ n F)
theorem Kn.imp {P : Program} {w : World} {K : PySem.W.Frag} {mg : Str → Option Value} {base : Heap} {k n : Nat} {x : Str} {ps : List Str} {F G : Fn} (h : Kn P w K mg base k n x ps F) (i : ∀ ws m, ws.length = n → G ws m = .stuck ∨ F ws m = G ws m) : Kn P w K mg base k n x ps G := by
  obtain ⟨f, fd, h1, h2, h3, h4⟩ := h
  exact ⟨f, fd, h1, h2, h3, h4.imp fun vs H Q E p => spD_imp i p⟩
theorem Kn.mono {P : Program} {w : World} {K : PySem.W.Frag} {mg : Str → Option Value} {base : Heap} {j k n : Nat} {x : Str} {ps : List Str} {F : Fn} (h : Kn P w K mg base j n x ps F) (hk : j ≤ k) : Kn P w K mg base k n x ps F := by
  obtain ⟨f, fd, h1, h2, h3, h4⟩ := h
  exact ⟨f, fd, h1, h2, h3, h4.mono hk⟩
/-- a def of the row, where it stands -/
def Df (K : PySem.W.Frag) (mg : Str → Option Value) (x : Str) (st : Stmt) : Prop := ∃ (f : Addr) (fd : FuncData), mg x = some (.ref f) ∧ FunD K x x (defArgs st) (defBody st) (defScope st) [] [] f fd
section
variable {X : Cx} {W : L2.WX}
theorem de_callK {j k n : Nat} {ps : List Str} {F : Fn} {x : Str} {p pos : Pos} {e : Expr} {es : List Expr} {fa : Em (List Wd)} (c : Kn X.prog X.w X.K X.mg X.base k n x ps F) (tk : Takes X W) (hr : Room j X.A) (hk : k ≤ j) (hg : Gl X x)
    (ha : PA X (e :: es) (tA X.KW W fa)) (hdb : (x == ("__debug__" : Str)) = false := by decide) (he : starEach (e :: es) X.env = (false, eval e X.env) :: starEach es X.env := by rfl) (hpl : (backTo pos (starEach es X.env)).any (·.1) = false := by rfl) :
    PE X (.Call (.Name x p) (e :: es) [] pos) (tE X.KW W (eCall n F fa)) := by
  obtain ⟨f, fd, h1, h2, h3, h4⟩ := c
  exact de_call tk h4 (hr.mono hk) hg h1 h2 h3 ha hdb he hpl
theorem k_fn {P : Program} {w : World} {K : PySem.W.Frag} {mg : Str → Option Value} {base : Heap} {x : Str} {st : Stmt} {N ps : List Str} {k n j : Nat} {b : Sm} (D : Df K mg x st) (S : FnScope N ps (defScope st)) (hN : N.length = n) (hj : ps.length = j)
    (hbd : ∀ (f : Addr) (fd : FuncData), FunD K x x (defArgs st) (defBody st) (defScope st) [] [] f fd → Binds K fd ps [])
    (hb : ∀ (f : Addr) (cdv : Value) (A : Around) (outer : List PySem.Env) (s : Shared) (H : Hp) (E : XK), Room k (A.deeper (envOfC x (defScope st) s.heap.objs.size f cdv)) → Takes (cxOf (L2.CX P w) P w K mg base N x (defScope st) f cdv A outer s H E) (fun cls d _ H => E cls d H) →
      PassesOwn (model P w) (A.deeper (envOfC x (defScope st) s.heap.objs.size f cdv)) (envOfC x (defScope st) s.heap.objs.size f cdv) (cxOf (L2.CX P w) P w K mg base N x (defScope st) f cdv A outer s H E).xe →
      PSs (cxOf (L2.CX P w) P w K mg base N x (defScope st) f cdv A outer s H E) (defBody st) (tS ⟨K, w⟩ (fun cls d _ H => E cls d H) b)) : Kn P w K mg base (k + 1) j x ps (runF n b) := by
  obtain ⟨f, fd, h1, F⟩ := D
  exact ⟨f, fd, h1, F.kp, hbd f fd F, d_fn F S hN hj fun cdv A outer s H E hr tk hp => hb f cdv A outer s H E hr tk hp⟩
end
theorem bt_len : bootBuiltins "len" = some (.builtin "len") := by decide +kernel
theorem bt_abs : bootBuiltins "abs" = some (.builtin "abs") := by decide +kernel
theorem bt_all : bootBuiltins "all" = some (.builtin "all") := by decide +kernel
theorem bt_sum : bootBuiltins "sum" = some (.builtin "sum") := by decide +kernel
theorem bt_isi : bootBuiltins "isinstance" = some (.builtin "isinstance") := by decide +kernel
theorem bt_int : bootBuiltins "int" = some (.type "int") := by decide +kernel
theorem bt_str : bootBuiltins "str" = some (.type "str") := by decide +kernel
theorem bt_bool : bootBuiltins "bool" = some (.type "bool") := by decide +kernel
theorem bt_list : bootBuiltins "list" = some (.type "list") := by decide +kernel
theorem bt_tuple : bootBuiltins "tuple" = some (.type "tuple") := by decide +kernel
end DL
namespace DL
open PySem PySem.Spec PyProof.Rows L2
theorem dt_pw {X : Cx} {e : Expr} {t : TT} (h : PW X e t) : PT X e t := h.pt
end DL
set_option Elab.async false
set_option linter.all false
set_option maxRecDepth 100000
set_option maxHeartbeats 2000000
namespace DL
open PySem PySem.Spec PyProof.Rows L2
end DL
set_option Elab.async false
set_option linter.all false
set_option maxRecDepth 100000
set_option maxHeartbeats 2000000
namespace DL
open PySem PySem.Spec PyProof.Rows L2
/-- a method that says super(): its context -/
def mcx (P : Program) (w : World) (K : PySem.W.Frag) (mg : Str → Option Value) (base : Heap) (N : List Str) (qual : Str) (scope : Scope) (f : Addr) (cd : Value) (cc : Addr) (A : Around) (outer : List PySem.Env) (s : Shared) (H : Hp) (E : XK) : Cx where
  prog := P
  w := w
  K := K
  mg := mg
  base := base
  A := A.deeper (PySem.W.ksEnv qual scope s.heap.objs.size f cd cc)
  N := N
  s_0 := s
  H_0 := H
  env := PySem.W.ksEnv qual scope s.heap.objs.size f cd cc
  outer := outer
  stack := PySem.W.ksEnv qual scope s.heap.objs.size f cd cc :: outer
  ex := []
  fn := fun _ => false
  calm := true
  pn := []
  xe := fun e s' => wpAny (model P w) (A.deeper (PySem.W.ksEnv qual scope s.heap.objs.size f cd cc)) (leaving (PySem.W.ksEnv qual scope s.heap.objs.size f cd cc) e) (fun _ s'' => L2.CX P w outer H s E e s'') (fun e' s'' => L2.CX P w outer H s E e' s'') s'
section
variable {P : Program} {w : World} {K : PySem.W.Frag} {mg : Str → Option Value} {base : Heap} {ps : List Str} {qual : Str} {scope : Scope} {f cc D : Addr} {cd : Value} {A : Around} {outer : List PySem.Env} {s : Shared} {H : Hp} {E : XK} {us : List Value} {vs : List V}
theorem m_start {h₁ : Heap} {tk : Nat} {cl : Value} {cld : Option Addr} {csl : Array (Option Value)} (hk : scope.kind = .function) (hnd : ps.Nodup) (hloc : ∀ x ∈ ps, scope.names.lookup x = some .local) (hcell : ∀ y ∈ scope.names, y.2 ≠ .cell) (hfree : ∀ y, scope.names.lookup y = some .free → y = "__class__")
    (hcc : K.lookup cc = some ⟨cl, cld, .cell (some (.ref D)), csl⟩) (hd : A.handled = none) (e0 : Env0 P w K mg base A outer s H) (hl : vs.length = ps.length) (r : Vals vs us)
    (hns : h₁.Ns s.heap.objs.size fun x => (ps.zip us).reverse.lookup x) (kp : ∀ b o, s.heap.get? b = some o → h₁.get? b = some o) :
    Inv (mcx P w K mg base ps qual scope f cd cc A outer s H E) [] (L2.start ps vs) H { s with heap := h₁, toks := tk } := by
  have KX : K.In s.heap := e0.mod.kin.keeps fun b o e => (e0.bs b o e).1
  have hcs := KX _ _ hcc
  have hcn : H cc = none := by
    have hb := e0.mod.kin _ _ hcc
    exact (e0.bs _ _ hb).2
  have cl1 : ∀ {x : Str} {c : Addr}, ([("__class__", cc)] : List (Str × Addr)).lookup x = some c → x = ("__class__" : Str) ∧ c = cc := fun {x c} e => by
    by_cases h : x = ("__class__" : Str)
    · subst h
      have : ([("__class__", cc)] : List (Str × Addr)).lookup ("__class__" : Str) = some cc := rfl
      rw [this] at e; cases e; exact ⟨rfl, rfl⟩
    · have hb : (x == ("__class__" : Str)) = false := by simpa using h
      have : ([("__class__", cc)] : List (Str × Addr)).lookup x = none := by simp [List.lookup, hb]
      rw [this] at e; cases e
  have noA : ∀ b : Addr, b ∉ (mcx P w K mg base ps qual scope f cd cc A outer s H E).ex := fun b z => absurd (show b ∈ ([] : List Addr) from z) (by simp)
  refine ⟨⟨e0.mod, hk, rfl, rfl, Nat.le_refl _, fun x y c h1 h2 => ?_, fun x hx => ?_, fun y c z _ => ?_, fun _ => hd, Around.frames_deeper e0.frames, .inr ⟨rfl, rfl⟩, fun b z => absurd z (noA b), e0.bs, e0.bsz, fun b _ _ => noA b, fun b z => absurd z (noA b), e0.funs, e0.frf⟩,
    rfl, e0.bare, Un.kept kp, ⟨_, hns, fun i y v h1 h2 h3 => ?_⟩, fun y c h => ?_, e0.hok.fresh (Nat.le_refl _), fun y c h => ?_, fun p hp => absurd (show p ∈ ([] : List (Addr × Obj)) from hp) (by simp), e0.hok.kept kp, ?_⟩
  · exact (cl1 h1).1.trans (cl1 h2).1.symm
  · have hx : scope.names.lookup x = some .cell ∨ scope.names.lookup x = some .free := hx
    rcases hx with hx | hx
    · exact absurd rfl (hcell _ (PySem.mem_of_lookup hx))
    · exact ⟨cc, by rw [hfree x hx]; rfl⟩
  · have z : false = true := z
    cases z
  · have h1 : ps[i]? = some y := h1
    have hi : i < vs.length := by rw [hl]; exact (List.getElem?_eq_some_iff.mp h1).1
    have ha : vs[i]? = some v := by
      unfold L2.start at h2
      rw [List.getElem?_append_left (by simpa using hi), List.getElem?_map] at h2
      cases e : vs[i]? with
      | none => rw [e] at h2; cases h2
      | some a => rw [e] at h2; cases h2; rfl
    obtain ⟨u, hu, rv⟩ := r.get ha
    exact ⟨u, rv, .inl ⟨hloc y (List.mem_of_getElem? h1), NdefX.zip_look hnd h1 hu⟩⟩
  · obtain ⟨_, rfl⟩ := cl1 h
    exact ⟨_, _, kp _ _ hcs, rfl⟩
  · obtain ⟨_, rfl⟩ := cl1 h
    exact hcn
  · show (L2.start ps vs).length = ps.length
    unfold L2.start
    rw [List.length_append, List.length_map, List.length_replicate]; omega
end
/-- what the written part says of an own error's class and of its __init__ that says super() -/
structure ErrC (prog : Program) (K : PySem.W.Frag) (mg : Str → Option Value) (C fI cc cda : Addr) (fd : FuncData) : Prop where
  ex : OexC K C
  fn : ∃ oc od osl, K.lookup fI = some ⟨oc, od, .func fd, osl⟩
  code : ∃ ccl cdd vs ccs file tf, K.lookup cda = some ⟨ccl, cdd, .fields vs, ccs⟩ ∧ vs[2]? = some (.str file tf) ∧ ((prog.main.file : Str) == file) = true
  cell : ∃ cl cld csl, K.lookup cc = some ⟨cl, cld, .cell (some (.ref C)), csl⟩
  sub : PySem.W.mroIn K C (.ref C) = some true
  sup : mg "super" = none
  init : PySem.W.ks_superIn K C C "__init__" = some (some (.builtin "ValueError.__init__"))
  opq : PySem.W.nsIn K cStatics "thirdparty.any" = some none
  ve : PySem.W.subIn K (.ref C) (.type "ValueError") = some true
  top : (prog.main.scope.names.lookup ("super" : Str)).isSome = false
section
variable {X : Cx} {pins : List (Addr × Obj)} {σ : L2.St} {H : Hp} {s : Shared} {C fI cc cda a : Addr} {fd : FuncData} {qual : Str} {scope : Scope} {L : Addr} {body : List Stmt} {es : List Expr} {e1 : Expr} {n : Nat}
theorem boot_super : bootBuiltins "super" = some (.type "super") := by decide +kernel
/-- super().__init__(e, ..) -/
theorem super_init {p0 p1 p2 p3 p4 : Pos} {ar : Arg} {t : TA} (T : ErrC X.prog X.K X.mg C fI cc cda fd) (henv : X.env = PySem.W.ksEnv qual scope L fI (.ref cda) cc) (hk : scope.kind = .function)
    (hp : (fd.params.posonlyargs ++ fd.params.args).head? = some ar) (hks : scope.names.lookup ("super" : Str) = some .globalImplicit) (hkc : scope.names.lookup ("__class__" : Str) = some .free) (hka : scope.names.lookup ar.arg = some .local)
    (hN : X.N[0]? = some ar.arg) (I : Inv X pins σ H s) (hσ : σ[0]? = some (some (.ref a))) (ea : H a = some (exo a C none)) (ha : PA X (e1 :: es) t) (ht : t σ H fun vs H1 => H1 = H ∧ vs.length ≤ 1000)
    {pl : Sem Bool} (hc : eval (.Call (.Attribute (.Call (.Name "super" p0) [] [] p1) "__init__" p2) (e1 :: es) [] p3) X.env = (do
      let ov ← attributeBase (.Call (.Name "super" p0) [] [] p1) "__init__" X.env (eval (.Call (.Name "super" p0) [] [] p1) X.env)
      standAt p2.atName
      let (f, first) ← holding [ov] (getMethod ov "__init__" pl)
      callWith p3 f first (backTo p3 (starEach (e1 :: es) X.env)) []) := by rfl)
    (he : starEach (e1 :: es) X.env = (false, eval e1 X.env) :: starEach es X.env := by rfl) (hpl : (backTo p3 (starEach es X.env)).any (·.1) = false := by rfl) (hsw : swapsWith (.Call (.Attribute (.Call (.Name "super" p0) [] [] p1) "__init__" p2) (e1 :: es) [] p3) none p4.line X.env = pure false := by rfl) :
    _root_.PySem.wpAt (model X.prog X.w) X.A (.func body X.env) (exec (.Expr (.Call (.Attribute (.Call (.Name "super" p0) [] [] p1) "__init__" p2) (e1 :: es) [] p3) p4) X.env) (fun f s' => f = .next ∧ Inv X pins σ H s') X.xe s := by
  obtain ⟨oc, od, osl, hf⟩ := T.fn
  obtain ⟨ccl, cdd, cvs, ccs, file, tf, hcode, hvs, hfile⟩ := T.code
  obtain ⟨cl, cld, csl, hcell⟩ := T.cell
  obtain ⟨nm, q, N, bs, bm, sn, sub, ab, col, dd, k0, k1, k2, k3, k5, hC, hbm⟩ := T.ex.cls
  have hcl : PySem.W.clsIn X.K C = some { name := nm, bases := bs, mro := .ref C :: bm, ns := N, qualname := q, hasDict := true, slotNames := sn, subclasses := sub, abstract := ab, collection := col, hasDel := false } := by unfold PySem.W.clsIn; rw [hC] <;> rfl
  have KX := I.kIn
  have hkk : X.env.scope.kind = .function := I.ok.kind
  have hkos : X.env.kindOf "super" = some .globalImplicit := by rw [henv]; exact hks
  have hkoc : X.env.kindOf "__class__" = some .free := by rw [henv]; exact hkc
  have hkoa : X.env.kindOf ar.arg = some .local := by rw [henv]; exact hka
  have hfu : X.env.func = some fI := by rw [henv]
  have hco : X.env.code = .ref cda := by rw [henv]
  have hce : X.env.cells.lookup ("__class__" : Str) = some cc := by rw [henv]; rfl
  obtain ⟨mb, hb1, hb2⟩ := I.mod.blt
  obtain ⟨m, hns, hlo⟩ := I.loc
  obtain ⟨ua, rua, lka⟩ := hlo 0 ar.arg (.ref a) hN hσ (.inl hkoa)
  obtain rfl : ua = Value.ref a := rua
  have hma : m ar.arg = some (.ref a) := by
    rcases lka with h | ⟨h, _⟩
    · exact h.2
    · rw [hkoa] at h; rcases h with h | h <;> cases h
  obtain ⟨t1, hoa⟩ := exo_at I.hok ea
  refine PySem.ks_wpAt_Expr_any ?_ I.quiet hsw
  refine PySem.ks_wpAt_MethodCall ?_ hc
  refine PySem.ks_wpAt_super_base hkos hkoc (by decide) hfu (KX _ _ hf) rfl hp hco (KX _ _ hcode) rfl hvs hfile T.top ?_
  refine PySem.W.ks_loadName_global hkk hkos (PySem.Calls.loadGlobal_builtin (by rw [I.ok.glob]; exact I.mod.glob.keeps I.bk) T.sup (by rw [I.ok.blt]; exact hb1.keeps I.bk) ((hb2 "super" (by decide)).trans boot_super) ⟨rfl, ?_⟩)
  refine PySem.wpAny_loadName_free hkk hkoc hce ⟨_, KX _ _ hcell, rfl⟩ ?_
  refine PySem.wpAny_loadName_local hkk hkoa hns hma ?_
  obtain ⟨hh, g, dr, tk, os⟩ := s
  refine PySem.ks_wpAny_isType_cls (KX _ _ hC) rfl ⟨rfl, ?_⟩
  refine PySem.ks_wpAny_call_super (KX _ _ hC) rfl hoa rfl (fun c z => by cases z) (PySem.W.looks_mroIn KX T.sub) (fun h' hso kp => ?_)
  have I1 : Inv X pins σ H ⟨h', g, dr, tk, os⟩ := I.kept (t' := tk) kp
  have KX1 := I1.kIn
  have hoa1 := kp _ _ hoa
  have IA : PySem.W.InstAt h' a _ C none := ⟨hoa1, rfl, rfl, trivial⟩
  have hI : PySem.W.Looks (model X.prog X.w) h' (isInstance (.ref a) (.type "ValueError")) true := IA.type.andThen (PySem.W.looks_subIn KX1 T.ve)
  have hal : PySem.W.alongIn X.K "__init__" ((((Value.ref C :: bm)).dropWhile (· != .ref C)).drop 1) = some (some (.builtin "ValueError.__init__")) := by
    have h := T.init
    unfold PySem.W.ks_superIn at h
    rw [hcl] at h
    exact h
  have hmr : PySem.W.Looks (model X.prog X.w) h' (mroOf (.ref C)) (Value.ref C :: bm) := fun A Q E s k q => wpAny_bind ((PySem.W.looks_clsIn KX1 hcl) A _ E s k (wpAny_pure q))
  refine PySem.W.kxs_getMethod PySem.W.kxs_ValueError hso (PySem.W.looks_opaque KX1 T.opq) hmr rfl KX1 hal hI (PySem.W.ks_ne KX1 IA hcl) (by decide) ?_
  have hmw : (h'.push (PySem.W.kxs_mw "ValueError.__init__" a)).get? h'.objs.size = some (PySem.W.kxs_mw "ValueError.__init__" a) := Heap.get?_push_at rfl rfl
  have I2 : Inv X pins σ H ⟨h'.push (PySem.W.kxs_mw "ValueError.__init__" a), g, dr, tk + 1, os⟩ := I1.kept (t' := tk + 1) fun b o e => Heap.get?_push_of_some _ e
  have hlt : ∀ {b : Addr} {o : Obj}, h'.get? b = some o → b ≠ h'.objs.size := fun {b o} e => Nat.ne_of_lt (Heap.lt_size e)
  have I3 : Inv X ((h'.objs.size, PySem.W.kxs_mw "ValueError.__init__" a) :: pins) σ H ⟨h'.push (PySem.W.kxs_mw "ValueError.__init__" a), g, dr, tk + 1, os⟩ := I2.pins_of fun q hq => by
    rcases List.mem_cons.mp hq with rfl | hq
    · exact ⟨hmw, I1.hok.fresh (Nat.le_refl _), Nat.ne_of_gt I1.lt, I1.nofs (Nat.le_refl _), fun v z => nomatch z⟩
    · exact I2.pin q (List.mem_append_right _ hq)
  show wpAny _ _ (callWith p3 (Value.ref h'.objs.size) [] (backTo p3 (starEach (e1 :: es) X.env)) []) _ _ _
  rw [he]
  refine PySem.W.kxs_callWith (i := "ValueError.__init__") (x := a) (by show (false || (backTo p3 (starEach es X.env)).any (·.1)) = false; rw [hpl]; rfl) (PySem.Calls.evalArgs_plain ?_)
  have hrun := ha.run p3 _ _ σ H _ I3 ht
  rw [he] at hrun
  refine thn hrun fun us s1 ⟨vs, H1, J, r1, eH, hz⟩ => ?_
  subst eH
  have hu := (J.pin (h'.objs.size, PySem.W.kxs_mw "ValueError.__init__" a) (List.mem_append_right _ (List.mem_cons_self ..))).1
  refine ⟨hu, ?_⟩
  obtain ⟨t2, ho2⟩ := exo_at J.hok ea
  obtain ⟨hp2, g2, d2, tk2, os2⟩ := s1
  have hlen : us.length ≤ sizeLine := by
    rw [← Paired.length r1, sizeLine_eq]
    omega
  refine wpAny_call (codeAny_of_tree ?_)
  show wpAny _ _ (callAny (.ref h'.objs.size) ⟨us, []⟩) _ _ _
  simp only [callAny]
  refine wpAny_bind (wpAny_load hu ?_)
  simp only [PySem.W.kxs_mw, show (Value.type "method-wrapper" == Value.type "method" || Value.type "method-wrapper" == Value.type "builtin_function_or_method" || Value.type "method-wrapper" == Value.type "method-wrapper") = true by decide, if_true]
  refine PySem.W.KFB.if_so (by decide) ?_
  refine wpAny_bind (PySem.W.check_bound_init F.excBase_ValueError.toExcCallFacts (J.kIn _ _ hC) ho2 rfl ?_)
  refine wpAny_bind (wpAny_pure (wpAny_pure ?_))
  refine ⟨plainId_quiet F.excBase_ValueError.init.plain _, codeAny_builtin F.excBase_ValueError.initEntry ?_⟩
  refine PySem.W.exc_init_tree (cls := .ref C) (t0 := t2) (dv := none) (c2 := .none) (c3 := .none) (b4 := .bool false) ho2 hlen fun h3 k hx _ => ?_
  have J' := J.write (t' := tk2) (x := a) (e := a) (o := exo a C none) (by rw [ea]; exact True.intro) (.inl rfl) k ⟨_, hx⟩ (exo_ok hx)
  have eu : upd H1 a (exo a C none) = H1 := by
    funext b
    by_cases hb : b = a
    · rw [hb, upd_same, ea]
    · rw [upd_ne hb]
  rw [eu] at J'
  exact ⟨trivial, J'.pins_of fun q hq => J'.pin q (List.mem_append_right _ (List.mem_cons_of_mem _ hq))⟩
end
end DL
set_option Elab.async false
set_option linter.all false
set_option maxRecDepth 100000
set_option maxHeartbeats 2000000
namespace DL
open PySem PySem.Spec PyProof.Rows L2
def tFs (K : PySem.W.Frag) : List (Str × Nat) → TS
  | [] => tNext
  | (f, i) :: r => tSeq (tOst K f (tVar 0) (tVar i)) (tFs K r)
/-- an own error's __init__ -/
def spI (C : Addr) (n : Nat) (fs : List (Str × Nat)) : Sp := fun vs H Q _ => vs.length = n ∧ ∃ a ws, vs = .ref a :: ws ∧ H a = some (exo a C none) ∧
  ∀ d H', H d = none → d ≠ a → H' a = some (exo a C (some d)) → H' d = some (exd d (fs.reverse.map fun p => (p.1, vs[p.2]?.getD .non))) → (∀ b, b ≠ a → b ≠ d → H' b = H b) → Q .non H'
theorem tFs_go {K : PySem.W.Frag} {C a dx : Addr} {vs : List V} {σ : L2.St} {D : Ends} (T : OexC K C) (hσ : ∀ (i : Nat) (v : V), vs[i]? = some v → σ[i]? = some (some v)) (h0 : σ[0]? = some (some (.ref a))) :
    ∀ (fs : List (Str × Nat)) (done : List (Str × V)) (H : Hp), (∀ p ∈ fs, PySem.W.findIn K (.ref C) p.1 = some none ∧ p.2 < vs.length) → done.length + fs.length ≤ 900 → H a = some (exo a C (some dx)) → H dx = some (exd dx done) → dx ≠ a →
      (∀ H', H' a = some (exo a C (some dx)) → H' dx = some (exd dx ((fs.reverse.map fun p => (p.1, vs[p.2]?.getD .non)) ++ done)) → (∀ b, b ≠ a → b ≠ dx → H' b = H b) → D.nx σ H') → tFs K fs D σ H
  | [], done, H, _, _, ea, ed, _, k => k H ea ed fun _ _ _ => rfl
  | (f, i) :: r, done, H, hf, hl, ea, ed, hda, k => by
    obtain ⟨hno, hi⟩ := hf _ (List.mem_cons_self ..)
    refine ⟨_, hσ i _ (List.getElem?_eq_getElem hi), _, h0, a, C, rfl, T, hno, .inr ⟨dx, done, ea, ed, by simp at hl; omega, ?_⟩⟩
    refine tFs_go T hσ h0 r _ _ (fun p hp => hf p (List.mem_cons_of_mem _ hp)) (by simp at hl ⊢; omega) (by rw [upd_ne (Ne.symm hda)]; exact ea) upd_same hda fun H' h1 h2 h3 => k H' h1 ?_ fun b hb hd => (h3 b hb hd).trans (upd_ne hd)
    rw [h2]
    simp [List.getElem?_eq_getElem hi]
theorem tFs_start {K : PySem.W.Frag} {C a : Addr} {vs : List V} {σ : L2.St} {D : Ends} {f : Str} {i : Nat} {fs : List (Str × Nat)} {H : Hp} (T : OexC K C) (hσ : ∀ (i : Nat) (v : V), vs[i]? = some v → σ[i]? = some (some v)) (h0 : σ[0]? = some (some (.ref a)))
    (hf : ∀ p ∈ (f, i) :: fs, PySem.W.findIn K (.ref C) p.1 = some none ∧ p.2 < vs.length) (hl : fs.length ≤ 800) (ea : H a = some (exo a C none))
    (k : ∀ dx H', H dx = none → dx ≠ a → H' a = some (exo a C (some dx)) → H' dx = some (exd dx (((f, i) :: fs).reverse.map fun p => (p.1, vs[p.2]?.getD .non))) → (∀ b, b ≠ a → b ≠ dx → H' b = H b) → D.nx σ H') : tFs K ((f, i) :: fs) D σ H := by
  obtain ⟨hno, hi⟩ := hf _ (List.mem_cons_self ..)
  refine ⟨_, hσ i _ (List.getElem?_eq_getElem hi), _, h0, a, C, rfl, T, hno, .inl ⟨ea, fun dx hd hda => ?_⟩⟩
  refine tFs_go T hσ h0 fs [(f, vs[i])] _ (fun p hp => hf p (List.mem_cons_of_mem _ hp)) (by simp; omega) upd_same (by rw [upd_ne hda]; exact upd_same) hda fun H' h1 h2 h3 => k dx H' hd hda h1 ?_ fun b hb hd2 => ?_
  · rw [h2]
    simp [List.getElem?_eq_getElem hi]
  · rw [h3 b hb hd2, upd_ne hb, upd_ne hd2]
/-- what the row gives of an own error's __init__ -/
structure IniS (ps : List Str) (params : Arguments) (scope : Scope) : Prop where
  kind : scope.kind = .function
  co : scope.isCoroutine = false
  gen : scope.isGenerator = false
  nd : ps.Nodup
  loc : ∀ x ∈ ps, scope.names.lookup x = some .local
  cell : ∀ y ∈ scope.names, y.2 ≠ .cell
  free : ∀ y, scope.names.lookup y = some .free → y = "__class__"
  hd : ∃ ar : Arg, (params.posonlyargs ++ params.args).head? = some ar ∧ ps[0]? = some ar.arg
  sup : scope.names.lookup ("super" : Str) = some .globalImplicit
  cls : scope.names.lookup ("__class__" : Str) = some .free
section
variable {P : Program} {w : World} {K : PySem.W.Frag} {mg : Str → Option Value} {base : Heap} {C fI cc cda : Addr} {ps : List Str} {qual : Str} {params : Arguments} {rest : List Stmt} {scope : Scope} {dV kV doc pm ct : Value} {an : Option Addr} {p0 p1 p2 p3 p4 : Pos} {e1 : Expr} {es : List Expr} {f : Str} {i n : Nat} {fs : List (Str × Nat)} {idx : List Nat}
/-- the args of super().__init__: the parameters -/
def tVars : List Nat → TA
  | [] => tNil
  | i :: r => tCons (tVar i) (tVars r)
theorem tVars_go {vs : List V} {σ : L2.St} {H : Hp} (hσ : ∀ (i : Nat) (v : V), vs[i]? = some v → σ[i]? = some (some v)) : ∀ (is : List Nat) (Q : List V → Hp → Prop), (∀ i ∈ is, i < vs.length) → (∀ ws, ws.length = is.length → Q ws H) → tVars is σ H Q
  | [], Q, _, k => k [] rfl
  | i :: r, Q, hi, k => ⟨_, hσ i _ (List.getElem?_eq_getElem (hi i (List.mem_cons_self ..))), tVars_go hσ r _ (fun j hj => hi j (List.mem_cons_of_mem _ hj)) fun ws hw => k _ (by simp [hw])⟩
theorem init_fn (T : ErrC P K mg C fI cc cda (PySem.W.ksFn "__init__" qual params (.Expr (.Call (.Attribute (.Call (.Name "super" p0) [] [] p1) "__init__" p2) (e1 :: es) [] p3) p4 :: rest) scope dV kV doc pm an (.ref cda) ct cc))
    (hcd : PySem.W.codeIn K (.ref cda) qual = true) (S : IniS ps params scope) (hn : ps.length = n) (hff : ∀ p ∈ (f, i) :: fs, PySem.W.findIn K (.ref C) p.1 = some none ∧ p.2 < n) (hix : ∀ j ∈ idx, j < n) (hfl : fs.length ≤ 800) (hil : idx.length ≤ 1000)
    (hargs : ∀ A outer s H E, PA (mcx P w K mg base ps qual scope fI (.ref cda) cc A outer s H E) (e1 :: es) (tVars idx))
    (hrest : ∀ A outer s H E, PSs (mcx P w K mg base ps qual scope fI (.ref cda) cc A outer s H E) rest (tFs K ((f, i) :: fs)))
    (hpl : ∀ env, (backTo p3 (starEach es env)).any (·.1) = false) (he : ∀ env, starEach (e1 :: es) env = (false, eval e1 env) :: starEach es env)
    (hsw : ∀ env, swapsWith (.Call (.Attribute (.Call (.Name "super" p0) [] [] p1) "__init__" p2) (e1 :: es) [] p3) none p4.line env = pure false)
    (pl : PySem.Env → Sem Bool) (hc : ∀ env, eval (.Call (.Attribute (.Call (.Name "super" p0) [] [] p1) "__init__" p2) (e1 :: es) [] p3) env = (do
      let ov ← attributeBase (.Call (.Name "super" p0) [] [] p1) "__init__" env (eval (.Call (.Name "super" p0) [] [] p1) env)
      standAt p2.atName
      let (f, first) ← holding [ov] (getMethod ov "__init__" (pl env))
      callWith p3 f first (backTo p3 (starEach (e1 :: es) env)) [])) :
    FnOk P w K mg base (L2.CX P w) 1 fI (PySem.W.ksFn "__init__" qual params (.Expr (.Call (.Attribute (.Call (.Name "super" p0) [] [] p1) "__init__" p2) (e1 :: es) [] p3) p4 :: rest) scope dV kV doc pm an (.ref cda) ct cc) ps (spI C n ((f, i) :: fs)) := by
  refine ⟨fun vs H Q E h => h.1.trans hn.symm, fun A outer s H args us vs Q E hr e0 hb r hsp => ?_⟩
  obtain ⟨hl, a, ws, hvs, ea, hq⟩ := hsp
  obtain ⟨oc, od, osl, hfo⟩ := T.fn
  obtain ⟨cl, cld, csl, hcell⟩ := T.cell
  obtain ⟨ar, har, hps0⟩ := S.hd
  have KX : K.In s.heap := e0.mod.kin.keeps fun b o e => (e0.bs b o e).1
  have hll : vs.length = ps.length := by rw [hl, hn]
  refine PySem.ks_codeAny_call_defAt (fd := PySem.W.ksFn "__init__" qual params (.Expr (.Call (.Attribute (.Call (.Name "super" p0) [] [] p1) "__init__" p2) (e1 :: es) [] p3) p4 :: rest) scope dV kV doc pm an (.ref cda) ct cc) (binds := ps.zip us)
    hr.depth (KX _ _ hfo) rfl (e0.mod.nolimit.keeps fun b o e => (e0.bs b o e).1) (PySem.W.codeRec_of KX hcd) rfl hb S.cell (fun y hy => S.loc _ (List.of_mem_zip hy).1) (fun h₁ hns hk₁ => ?_) S.co S.gen S.kind
  have I : Inv (mcx P w K mg base ps qual scope fI (.ref cda) cc A outer s H E) [] (L2.start ps vs) H { s with heap := h₁, toks := s.toks + (ps.zip us).length } :=
    m_start S.kind S.nd S.loc S.cell S.free hcell hr.hd e0 hll r hns hk₁
  have hσ : ∀ (i : Nat) (v : V), vs[i]? = some v → (L2.start ps vs)[i]? = some (some v) := fun i v h => by
    unfold L2.start
    rw [List.getElem?_append_left (by simpa using (List.getElem?_eq_some_iff.mp h).1), List.getElem?_map, h]; rfl
  have h0 : (L2.start ps vs)[0]? = some (some (.ref a)) := hσ 0 _ (by rw [hvs]; rfl)
  refine PySem.ks_wpAt_execs_cons (PySem.ks_wpAt_mono (super_init (X := mcx P w K mg base ps qual scope fI (.ref cda) cc A outer s H E) (t := tVars idx) T rfl S.kind har S.sup S.cls (S.loc _ (List.mem_of_getElem? hps0)) hps0 I h0 ea (hargs A outer s H E)
    (tVars_go hσ idx _ (fun j hj => by rw [hl]; exact hix j hj) fun ws hw => ⟨rfl, by omega⟩) (hc _) (he _) (hpl _) (hsw _)) (fun fl s' hs => ?_) fun e s' hs => hs)
  obtain ⟨rfl, J⟩ := hs
  have ht : tFs K ((f, i) :: fs) { nx := fun _ H' => Q .non H', rt := fun _ _ => False } (L2.start ps vs) H :=
    tFs_start T.ex hσ h0 (fun p hp => ⟨(hff p hp).1, by rw [hl]; exact (hff p hp).2⟩) hfl ea fun dx H' h1 h2 h3 h4 h5 => hq dx H' h1 h2 h3 h4 h5
  refine PySem.wpAt_of_wpAny (wpAny_mono ((hrest A outer s H E).run [] _ _ _ _ J ht) (fun fl s2 h2 => ?_) fun e s2 h2 => h2)
  cases fl with
  | ret u =>
    obtain ⟨_, _, _, _, _, q⟩ := h2
    exact False.elim q
  | next =>
    obtain ⟨σ', H', J2, q⟩ := h2
    exact ⟨V.non, H', J2.os, J2.bare, J2.base, J2.hok, rfl, q⟩
  | brk =>
    obtain ⟨_, _, _, q⟩ := h2
    exact False.elim q
  | cont =>
    obtain ⟨_, _, _, q⟩ := h2
    exact False.elim q
end
end DL
set_option Elab.async false
set_option linter.all false
set_option maxRecDepth 100000
set_option maxHeartbeats 2000000
namespace DL
open PySem PySem.Spec PyProof.Rows L2
def up1 (fs : List (Str × Nat)) : List (Str × Nat) := fs.map fun p => (p.1, p.2 + 1)
/-- an own error whose __init__ takes n things beside self, and keeps under the names of fs the ones of these numbers -/
def Er (P : Program) (w : World) (K : PySem.W.Frag) (mg : Str → Option Value) (base : Heap) (x : Str) (n : Nat) (fs : List (Str × Nat)) : Prop :=
  ∃ (C fI : Addr) (fd : FuncData) (ps : List Str), mg x = some (.ref C) ∧ PySem.W.nsIn K mainGlobals x = some (some (.ref C)) ∧ OexC K C ∧ PySem.W.findIn K (.ref C) "__init__" = some (some (.ref fI)) ∧ PySem.W.typeIn K (.ref fI) = some (.type "function") ∧
    Binds K fd ps [] ∧ FnOk P w K mg base (L2.CX P w) 1 fI fd ps (spI C (n + 1) (up1 fs))
def exOf (x : Str) (fs : List (Str × Nat)) (ws : List Wd) : Ex := ⟨x, fs.reverse.map fun p => (p.1, (ws[p.2]?).getD (.d .none))⟩
def sRaise (x : Str) (n : Nat) (fs : List (Str × Nat)) (fa : Em (List Wd)) : Sm := fun env m => rs (fa env m) env fun ws m => if ws.length = n then .exc (exOf x fs ws) env m else .stuck
section
variable {X : Cx} {W : L2.WX}
theorem fsOk_of {K : Kw} {ι : List Addr} {H : Hp} {ws : List Wd} {vs : List V} (s0 : V) (r : RelWs K ι H ws vs) : ∀ fs : List (Str × Nat),
    FsOk K ι H (fs.map fun p => (p.1, (ws[p.2]?).getD (.d .none))) ((up1 fs).map fun p => (p.1, ((s0 :: vs)[p.2]?).getD .non))
  | [] => trivial
  | (f, i) :: fs => by
    refine ⟨rfl, ?_, fsOk_of s0 r fs⟩
    show RelW K ι H ((ws[i]?).getD (.d .none)) (((s0 :: vs)[i + 1]?).getD .non)
    rw [List.getElem?_cons_succ]
    cases e : ws[i]? with
    | some w =>
      obtain ⟨v, e2, r2⟩ := r.get e
      rw [e2]; exact r2
    | none =>
      have : vs[i]? = none := by
        rw [List.getElem?_eq_none_iff] at e ⊢
        rw [← r.length]; exact e
      rw [this]; exact .d .non
theorem ds_raise {x : Str} {n k : Nat} {fs : List (Str × Nat)} {p pos pos' : Pos} {e : Expr} {es : List Expr} {fa : Em (List Wd)} (c : Er X.prog X.w X.K X.mg X.base x n fs) (hcm : X.calm = true) (tk : Takes X W) (hr : Room k X.A) (hk : 2 ≤ k) (hg : Gl X x) (hn : n ≤ 1000)
    (ha : PA X (e :: es) (tA X.KW W fa)) (hdb : (x == ("__debug__" : Str)) = false := by decide) (he : starEach (e :: es) X.env = (false, eval e X.env) :: starEach es X.env := by rfl) (hpl : (backTo pos (starEach es X.env)).any (·.1) = false := by rfl) :
    PS X (.Raise (some (.Call (.Name x p) (e :: es) [] pos)) none pos') (tS X.KW W (sRaise x n fs fa)) := by
  obtain ⟨C, fI, fd, ps, h1, h2, T, h3, h4, h5, h6⟩ := c
  refine PSimp (ps_raise hcm tk (pmk_oex T h3 h4 h6 (hr.mono hk) h5 .nil (fun _ _ _ _ _ _ _ ⟨_, _, _, _, _, _, _, _, _, _, _, _, z⟩ => z.elim) hg h1 ha hdb he hpl)) fun D σ H ⟨ι, env, m, eo, mo, p⟩ => ?_
  refine PostS.bind eo mo p fun ι1 H1 ws vs m1 st1 mo1 eo1 ra p1 => ?_
  have p1' : PostS X.KW W D ι1 H1 (if ws.length = n then .exc (exOf x fs ws) env m1 else .stuck) := p1
  by_cases hl : ws.length = n
  · rw [if_pos hl] at p1'
    refine ⟨by rw [← ra.length, hl]; exact hn, fun a hna => ⟨by simp [← ra.length, hl], a, vs, by simp, upd_same, fun d H2 hd hda e1 e2 e3 => ?_⟩⟩
    have hd1 : H1 d = none := by rw [upd_ne hda] at hd; exact hd
    refine ⟨rfl, d, _, e1, e2, hd1, ?_⟩
    have H3 : ∀ b, b ≠ a → b ≠ d → upd (del H2 a) d (.xd ((up1 fs).reverse.map fun p => (p.1, ((V.ref a :: (vs ++ []))[p.2]?).getD .non))) b = H1 b := fun b hb hb2 => by
      rw [upd_ne hb2, del_ne hb, e3 b hb hb2, upd_ne hb]
    have hne : ∀ {b : Addr}, H1 b ≠ none → b ≠ a ∧ b ≠ d := fun {b} h => ⟨fun z => h (by rw [z]; exact hna), fun z => h (by rw [z]; exact hd1)⟩
    have st2 : Stp ι1 H1 ι1 (upd (del H2 a) d (.xd ((up1 fs).reverse.map fun p => (p.1, ((V.ref a :: (vs ++ []))[p.2]?).getD .non)))) :=
      ⟨List.prefix_refl _, fun b hb n => absurd hb n, fun b o hb _ => by
        obtain ⟨q1, q2⟩ := hne (b := b) (by rw [hb]; exact fun z => by cases z)
        rw [H3 b q1 q2]; exact hb⟩
    have mo2 := mo1.stay (ι' := ι1) st2 fun b hb => H3 b (hne (mo1.apart b hb).2.2.1).1 (hne (mo1.apart b hb).2.2.1).2
    refine p1' ι1 _ σ (.ref C) (some d) st2 mo2 (eo1.step mo1.apart st2) ⟨C, h2, rfl, .inr ⟨d, _, rfl, upd_same, ?_⟩⟩
    have r2 := ra.step mo1.apart st2
    have := fsOk_of (.ref a) r2 fs.reverse
    rw [List.append_nil]
    unfold up1 at this ⊢
    rw [← List.map_reverse]
    rw [List.append_nil, ← List.map_reverse] at this
    exact this
  · rw [if_neg hl] at p1'
    exact p1'.elim
end
end DL
set_option Elab.async false
set_option linter.all false
set_option maxRecDepth 100000
set_option maxHeartbeats 2000000
namespace DL
open PySem PySem.Spec PyProof.Rows L2
structure ErD where
  cls : Str
  qual : Str
  params : Arguments
  body : List Stmt
  scope : Scope
  fs : List Str
abbrev FnR : Type := Option (Str × Str × Arguments × FuncBody × Scope × Addr × List Str × Addr)
def erI (K : PySem.W.Frag) (x : Str) : Addr := He.ma K (He.ga K x) "__init__"
def fnR (K : PySem.W.Frag) (x : Str) : FnR := match K.lookup (erI K x) with
  | some ⟨_, _, .func fd, _⟩ => some (fd.name, fd.qualname, fd.params, fd.body, fd.scope, fd.globals, fd.closure.map (·.1), fd.builtins)
  | _ => none
def ErD.val (d : ErD) : FnR := some ("__init__", d.qual, d.params, .stmts d.body, d.scope, mainGlobals, ["__class__"], builtinsNs)
def oexB (K : PySem.W.Frag) (C : Addr) : Bool := (match K.lookup C with
  | some ⟨.type "type", _, .cls cd, sl⟩ => (match cd.mro, sl.toList with
    | .ref C' :: bm, [_, _, _, _, some (.builtin n), _] => C' == C && n == "ValueError.__new__" && !cd.hasDel && cd.hasDict && PySem.HandSPX.refsVE bm
    | _, _ => false)
  | _ => false) && He.eqO (PySem.W.findIn K (.ref C) "__setattr__") (some (some (.builtin "object.__setattr__"))) && decide (PySem.W.subIn K (.ref C) (.type "BaseException") = some true) && decide (PySem.W.typeIn K (.ref C) = some (.type "type")) && PySem.W.keepIn K (.ref C)
theorem oexB_ok {K : PySem.W.Frag} {C : Addr} (h : oexB K C = true) : OexC K C := by
  unfold oexB at h
  simp only [Bool.and_eq_true, decide_eq_true_eq] at h
  obtain ⟨⟨⟨⟨q, h1⟩, h2⟩, h3⟩, h4⟩ := h
  refine ⟨?_, He.eqO_ok h1, h2, h3, h4⟩
  split at q
  · rename_i dd cd sl ho
    split at q
    · rename_i C' bm k0 k1 k2 k3 n k5 hm hs
      simp only [Bool.and_eq_true, beq_iff_eq, Bool.not_eq_true'] at q
      obtain ⟨⟨⟨⟨rfl, rfl⟩, hdel⟩, hdic⟩, ht⟩ := q
      obtain ⟨nm, bs, mro, ns, qn, hd, sn, sub, ab, col, del⟩ := cd
      dsimp only at hm hdel hdic
      subst hm hdel hdic
      have hsl : sl = #[k0, k1, k2, k3, some (.builtin "ValueError.__new__"), k5] := by
        obtain ⟨l⟩ := sl
        simp only at hs
        rw [hs]
      subst hsl
      exact ⟨nm, qn, ns, bs, bm, sn, sub, ab, col, dd, k0, k1, k2, k3, k5, ho, ht⟩
    · cases q
  · cases q
def codB (K : PySem.W.Frag) (file : Str) : Value → Bool
  | .ref c => (match K.lookup c with
    | some ⟨_, _, .fields vs, _⟩ => (match (vs[2]? : Option Value) with
      | some (Value.str f _) => file == f
      | _ => false)
    | _ => false)
  | _ => false
def celB (K : PySem.W.Frag) (C : Addr) : List (Str × Addr) → Bool
  | [(_, cc)] => (match K.lookup cc with
    | some ⟨_, _, .cell (some (.ref D)), _⟩ => D == C
    | _ => false)
  | _ => false
def erB (file : Str) (K : PySem.W.Frag) (d : ErD) : Bool :=
  He.eqO (PySem.W.nsIn K mainGlobals d.cls) (some (some (.ref (He.ga K d.cls)))) && oexB K (He.ga K d.cls) && He.eqO (PySem.W.findIn K (.ref (He.ga K d.cls)) "__init__") (some (some (.ref (erI K d.cls)))) &&
  decide (PySem.W.typeIn K (.ref (erI K d.cls)) = some (.type "function")) && (match K.lookup (erI K d.cls) with
    | some ⟨_, _, .func fd, _⟩ => PySem.W.codeIn K fd.code d.qual && codB K file fd.code && celB K (He.ga K d.cls) fd.closure && decide (fd.defaults = Value.none)
    | _ => false) && decide (PySem.W.mroIn K (He.ga K d.cls) (.ref (He.ga K d.cls)) = some true) &&
  He.eqO (PySem.W.ks_superIn K (He.ga K d.cls) (He.ga K d.cls) "__init__") (some (some (.builtin "ValueError.__init__"))) && He.eqO (PySem.W.nsIn K cStatics "thirdparty.any") (some none) &&
  decide (PySem.W.subIn K (.ref (He.ga K d.cls)) (.type "ValueError") = some true) && d.fs.all fun f => He.eqO (PySem.W.findIn K (.ref (He.ga K d.cls)) f) (some none)
structure ErF (P : Program) (K : PySem.W.Frag) (mg : Str → Option Value) (d : ErD) (C fI cc cda : Addr) (dV kV doc pm ct : Value) (an : Option Addr) : Prop where
  mgC : mg d.cls = some (.ref C)
  ns : PySem.W.nsIn K mainGlobals d.cls = some (some (.ref C))
  iC : PySem.W.findIn K (.ref C) "__init__" = some (some (.ref fI))
  tI : PySem.W.typeIn K (.ref fI) = some (.type "function")
  cd : PySem.W.codeIn K (.ref cda) d.qual = true
  er : ErrC P K mg C fI cc cda (PySem.W.ksFn "__init__" d.qual d.params d.body d.scope dV kV doc pm an (.ref cda) ct cc)
  no : ∀ f ∈ d.fs, PySem.W.findIn K (.ref C) f = some none
  dn : dV = .none
theorem erF_of {P : Program} {K : PySem.W.Frag} {h : Heap} {mg : Str → Option Value} {d : ErD} (X : K.In h) (G : h.Ns mainGlobals mg) (hs : mg "super" = none) (ht : (P.main.scope.names.lookup ("super" : Str)).isSome = false) (e : fnR K d.cls = d.val) (c : erB P.main.file K d = true) :
    ∃ C fI cc cda dV kV doc pm ct an, ErF P K mg d C fI cc cda dV kV doc pm ct an := by
  unfold erB at c
  simp only [Bool.and_eq_true, decide_eq_true_eq, List.all_eq_true] at c
  obtain ⟨⟨⟨⟨⟨⟨⟨⟨⟨c1, c2⟩, c3⟩, c4⟩, c5⟩, c6⟩, c7⟩, c8⟩, c9⟩, c10⟩ := c
  have c1' := He.eqO_ok c1
  unfold fnR at e
  cases q : K.lookup (erI K d.cls) with
  | none => rw [q] at c5; cases c5
  | some o =>
    obtain ⟨oc, od, dt, osl⟩ := o
    rw [q] at c5 e
    cases dt with
    | func fd =>
      obtain ⟨n1, n2, n3, n4, n5, n6, n7, n8, n9, n10, n11, n12, n13, n14, n15⟩ := fd
      have e2 : (some (n1, n2, n3, n4, n5, n6, n7.map (·.1), n15) : FnR) = (some ("__init__", d.qual, d.params, .stmts d.body, d.scope, mainGlobals, ["__class__"], builtinsNs) : FnR) := e
      simp only [Option.some.injEq, Prod.mk.injEq] at e2
      obtain ⟨h1, h2, h3, h4, h5, h6, h7, h8⟩ := e2
      subst h1 h2 h3 h4 h5 h6 h8
      have c5' : (PySem.W.codeIn K n13 d.qual && codB K P.main.file n13 && celB K (He.ga K d.cls) n7 && decide (n8 = Value.none)) = true := c5
      simp only [Bool.and_eq_true] at c5'
      obtain ⟨⟨⟨k1, k2⟩, k3⟩, k4⟩ := c5'
      unfold codB at k2
      unfold celB at k3
      split at k2
      · rename_i cda
        split at k2
        · rename_i ccl cdd cvs ccs hcode
          split at k2
          · rename_i ff tf hvs
            split at k3
            · rename_i nm cc
              split at k3
              · rename_i ccl2 ccd2 D ccs2 hcell
                obtain rfl : D = He.ga K d.cls := beq_iff_eq.mp k3
                obtain rfl : nm = "__class__" := by simpa using h7
                exact ⟨_, _, cc, cda, n8, n9, n10, n11, n14, n12, PySem.W.mg_of X G c1', c1', He.eqO_ok c3, c4, k1,
                  ⟨oexB_ok c2, ⟨_, _, _, q⟩, ⟨_, _, _, _, _, _, hcode, hvs, k2⟩, ⟨_, _, _, hcell⟩, c6, hs, He.eqO_ok c7, He.eqO_ok c8, c9, ht⟩, fun f hf => He.eqO_ok (c10 f hf), of_decide_eq_true k4⟩
              · cases k3
            · cases k3
          · cases k2
        · cases k2
      · cases k2
    | _ => cases c5
structure EcF (K : PySem.W.Frag) (mg : Str → Option Value) (x : Str) (fs : List Str) : Prop where
  mgC : mg x = some (.ref (He.ga K x))
  ns : PySem.W.nsIn K mainGlobals x = some (some (.ref (He.ga K x)))
  xf : XfC K (He.ga K x)
  no : ∀ f ∈ fs, PySem.W.findIn K (.ref (He.ga K x)) f = some none
def ecB (K : PySem.W.Frag) (p : Str × List Str) : Bool := He.eqO (PySem.W.nsIn K mainGlobals p.1) (some (some (.ref (He.ga K p.1)))) && xfB K (He.ga K p.1) && p.2.all fun f => He.eqO (PySem.W.findIn K (.ref (He.ga K p.1)) f) (some none)
theorem ecB_ok {K : PySem.W.Frag} {h : Heap} {mg : Str → Option Value} (X : K.In h) (G : h.Ns mainGlobals mg) {x : Str} {fs : List Str} (c : ecB K (x, fs) = true) : EcF K mg x fs := by
  unfold ecB at c
  simp only [Bool.and_eq_true, List.all_eq_true] at c
  obtain ⟨⟨c1, c2⟩, c3⟩ := c
  exact ⟨PySem.W.mg_of X G (He.eqO_ok c1), He.eqO_ok c1, xfB_ok c2, fun f hf => He.eqO_ok (c3 f hf)⟩
def subOf (l : List ((Str × Str) × Bool)) (x y : Str) : Option Bool := l.lookup (x, y)
def sbB (K : PySem.W.Frag) (p : (Str × Str) × Bool) : Bool := decide (PySem.W.exmOne K (.ref (He.ga K p.1.1)) (.ref (He.ga K p.1.2)) = some p.2)
/-- which error is one of which -/
def SubK (K : PySem.W.Frag) (sub : Str → Str → Option Bool) : Prop := ∀ x y b C D, sub x y = some b → PySem.W.nsIn K mainGlobals x = some (some (.ref C)) → PySem.W.nsIn K mainGlobals y = some (some (.ref D)) → PySem.W.exmOne K (.ref C) (.ref D) = some b
theorem look_mem {α β : Type} [BEq α] [LawfulBEq α] {a : α} {b : β} : ∀ {l : List (α × β)}, l.lookup a = some b → (a, b) ∈ l
  | [], h => by cases h
  | (k, v) :: l, h => by
    unfold List.lookup at h
    cases e : (a == k) with
    | true =>
      rw [e] at h
      have h2 : v = b := Option.some.inj h
      rw [beq_iff_eq.mp e, h2]
      exact List.mem_cons_self ..
    | false =>
      rw [e] at h
      exact List.mem_cons_of_mem _ (look_mem h)
theorem ga_of {K : PySem.W.Frag} {x : Str} {C : Addr} (h : PySem.W.nsIn K mainGlobals x = some (some (.ref C))) : He.ga K x = C := by
  unfold He.ga
  rw [h]
theorem subK_of {K : PySem.W.Frag} {l : List ((Str × Str) × Bool)} (h : l.all (sbB K) = true) : SubK K (subOf l) := fun x y b C D e hx hy => by
  have hm : ((x, y), b) ∈ l := look_mem e
  have h2 := List.all_eq_true.mp h _ hm
  unfold sbB at h2
  have h3 := of_decide_eq_true h2
  rw [ga_of hx, ga_of hy] at h3
  exact h3
abbrev AlR : Type := He.AlD × Bool × List FnR
structure SaysR (file : Str) (fa : List He.Fa) (fn : List He.DefD) (cs : List (Str × PyData)) (er : List ErD) (ec : List (Str × List Str)) (sb : List ((Str × Str) × Bool)) (K : PySem.W.Frag) : Prop where
  d : He.SaysD fa fn K
  c : cs.all (conF K) = true
  x : er.all (erB file K) = true
  f : er.map (fun d => fnR K d.cls) = er.map ErD.val
  e : ec.all (ecB K) = true
  s : sb.all (sbB K) = true
def kR (n : Nat) (g : Addr → Option Obj) : PySem.W.Frag := He.frG g (cStatics :: He.asD g n)
section
variable {file : Str} {fa : List He.Fa} {fn : List He.DefD} {cs : List (Str × PyData)} {er : List ErD} {ec : List (Str × List Str)} {sb : List ((Str × Str) × Bool)} {K : PySem.W.Frag}
theorem SaysR.con {h : Heap} {mg : Str → Option Value} (X : K.In h) (G : h.Ns mainGlobals mg) (c : SaysR file fa fn cs er ec sb K) (i : Nat) {x : Str} {d : PyData} (e : cs[i]? = some (x, d) := by rfl) : Con K mg x d :=
  conF_ok X G (List.all_eq_true.mp c.c _ (List.mem_of_getElem? e))
theorem SaysR.err {P : Program} {h : Heap} {mg : Str → Option Value} (X : K.In h) (G : h.Ns mainGlobals mg) (c : SaysR P.main.file fa fn cs er ec sb K) (hs : mg "super" = none) (ht : (P.main.scope.names.lookup ("super" : Str)).isSome = false) (i : Nat) {d : ErD} (e : er[i]? = some d := by rfl) :
    ∃ C fI cc cda dV kV doc pm ct an, ErF P K mg d C fI cc cda dV kV doc pm ct an := by
  have e3 := congrArg (fun l : List FnR => l[i]?) c.f
  simp only [List.getElem?_map, e, Option.map_some, Option.some.injEq] at e3
  exact erF_of X G hs ht e3 (List.all_eq_true.mp c.x _ (List.mem_of_getElem? e))
theorem SaysR.ecf {h : Heap} {mg : Str → Option Value} (X : K.In h) (G : h.Ns mainGlobals mg) (c : SaysR file fa fn cs er ec sb K) (i : Nat) {x : Str} {fs : List Str} (e : ec[i]? = some (x, fs) := by rfl) : EcF K mg x fs :=
  ecB_ok X G (List.all_eq_true.mp c.e _ (List.mem_of_getElem? e))
end
end DL
set_option Elab.async false
set_option linter.all false
set_option maxRecDepth 100000
set_option maxHeartbeats 2000000
namespace L2
open PySem PySem.Spec PyProof.Rows
def offE (i : Nat) (D : Ends) : Ends := { nx := fun σ' H' => D.nx (σ'.set i none) H', rt := D.rt, bk := fun σ' H' => D.bk (σ'.set i none) H', ct := fun σ' H' => D.ct (σ'.set i none) H' }
def wMix (K : PySem.W.Frag) (Wout : WX) (D : Ends) : List (Value × Option Nat × (Addr → Value → Option Addr → TS)) → WX
  | [] => Wout
  | (c, none, ts) :: r => fun cls d σ H => ∃ b, PySem.W.exmOne K cls c = some b ∧ (b = true → ∀ a, H a = none → ts a cls d D σ H) ∧ (b = false → wMix K Wout D r cls d σ H)
  | (c, some i, ts) :: r => fun cls d σ H => ∃ b, PySem.W.exmOne K cls c = some b ∧ (b = true → ∀ a, H a = none → ts a cls d (offE i D) (σ.set i (some (.ref a))) H) ∧ (b = false → wMix K Wout D r cls d σ H)
inductive HdsM (X : Cx) : List ExceptHandler → List (Value × Option Nat × (Addr → Value → Option Addr → TS)) → Prop
  | nil : HdsM X [] []
  | cons {x : Str} {c : Value} {ts : Addr → Value → Option Addr → TS} {b₀ : Stmt} {suite : List Stmt} {np pos' : Pos} {hds : List ExceptHandler} {l : List (Value × Option Nat × (Addr → Value → Option Addr → TS))} (hc : Names X x c)
      (hsu : ∀ (a : Addr) (oe : Obj) (cls : Value) (d : Option Addr) (pn : List (Addr × Obj)), Zc cls d oe → (∃ vs, oe.data = .fields vs) → PSs (X.suite a ((a, oe) :: pn)) (b₀ :: suite) (ts a cls d)) (r : HdsM X hds l) :
      HdsM X (.ExceptHandler (some (.Name x np)) none (b₀ :: suite) pos' :: hds) ((c, none, ts) :: l)
  | named {x n : Str} {c : Value} {i : Nat} {ts : Addr → Value → Option Addr → TS} {b₀ : Stmt} {suite : List Stmt} {np pos' : Pos} {hds : List ExceptHandler} {l : List (Value × Option Nat × (Addr → Value → Option Addr → TS))} (hc : Names X x c) (hi : X.N[i]? = some n) (hln : X.env.kindOf n = some .local)
      (hsu : ∀ (a : Addr) (oe : Obj) (cls : Value) (d : Option Addr) (pn : List (Addr × Obj)), Zc cls d oe → (∃ vs, oe.data = .fields vs) → PSs (X.suite a ((a, oe) :: pn)) (b₀ :: suite) (ts a cls d)) (r : HdsM X hds l) :
      HdsM X (.ExceptHandler (some (.Name x np)) (some n) (b₀ :: suite) pos' :: hds) ((c, some i, ts) :: l)
section
variable {X : Cx} {body : List Stmt} {h₀ : ExceptHandler} {hds : List ExceptHandler} {l : List (Value × Option Nat × (Addr → Value → Option Addr → TS))} {pos : Pos} {tb : WX → TS} {Wout : WX}
theorem ps_try_mix (hs : X.stack = X.env :: X.outer) (hf : X.env.frame = some X.env.locals) (tk : Takes X Wout)
    (hb : ∀ (W : WX) (pn : List (Addr × Obj)) (xe : Value → Shared → Prop), Takes (X.tr pn xe) W → PassesOwn (model X.prog X.w) X.A X.env xe → PSs (X.tr pn xe) body (tb W))
    (hN : X.N.Nodup) (hh : HdsM X (h₀ :: hds) l) : PS X (.Try body (h₀ :: hds) [] [] pos) (fun D σ H => tb (wMix X.K Wout D l) D σ H) := by
  refine ⟨fun pins s σ H D I h => ?_⟩
  have ok := I.ok
  have hfr : X.A.frames = some (X.env :: X.outer) := by rw [ok.frames, hs]
  refine wpAny_Try_except ?_
  refine wpAny_mono ((hb (wMix X.K Wout D l) (X.pn ++ pins) (fun e s₁ => wpAny (model X.prog X.w) X.A (noteFrame e X.env) (fun _ s₂ => wpAny (model X.prog X.w) X.A (setFlight e none) (fun _ s₃ =>
    wpAny (model X.prog X.w) X.A (handleBy e X.env (h₀ :: hds)) (SP X pins D) X.xe s₃) X.xe s₂) X.xe s₁) (fun u s' xx => ?_) PassesOwn.looking).run [] s σ H D (I.toTry _) h) (fun f s1 hsp => ?_) (fun e s1 he => he)
  · -- the catch
    obtain ⟨a, B, sI, pins', σ', H', cls, d, rfl, J', nb, up, sky, na, os, ag, w⟩ := xx
    have J : Inv X pins σ' H' sI := J'.ofTry ok
    have sky' : Sky B (X.env :: X.outer) a (Zc cls d) X.env.locals s'.heap := by rw [← hs]; exact sky
    show wpAny (model X.prog X.w) X.A (noteFrame (.ref a) X.env) _ _ _
    refine Sky.land Zc.steady hfr hf sky' fun h3 fl3 up3 => ?_
    have J3 : Inv X pins σ' H' { s' with heap := h3 } := J.landed nb fl3.1 (up.trans up3) os ag
    obtain ⟨oe3, vs3, he3, hz3, hd3⟩ := fl3.there
    have notFr : ∀ {h : Heap} {o : Obj} {vs : Array Value}, h.FunFrames B (X.env :: X.outer) → h.get? a = some o → o.data = .fields vs → a ∉ frs (X.env :: X.outer) := fun {h o vs} ff e dd hm => by
      obtain ⟨_, o', e', hnf⟩ := ff.mem hm
      rw [e] at e'; cases e'
      exact hnf _ dd
    have nfr := notFr fl3.2.2.1 he3 hd3
    have nL : a ≠ X.env.locals := fun z => nfr (List.mem_filterMap.mpr ⟨X.env, List.mem_cons_self, by rw [hf, z]⟩)
    have nF : a ∉ X.fs := fun hm => by
      obtain ⟨e, he, q⟩ := List.mem_filterMap.mp hm
      exact nfr (List.mem_filterMap.mpr ⟨e, List.mem_cons_of_mem _ he, q⟩)
    have S3 := J3.suite he3 hd3 na nL nF
    have go : ∀ {hds' : List ExceptHandler} {l' : List (Value × Option Nat × (Addr → Value → Option Addr → TS))}, HdsM X hds' l' → wMix X.K Wout D l' cls d σ' H' →
        wpAny (model X.prog X.w) X.A (handleBy (.ref a) X.env hds') (SP X pins D) X.xe { s' with heap := h3 } := by
      intro hds' l' hk
      induction hk with
      | nil =>
        intro w
        refine wpAny_handleBy_nil ?_
        obtain ⟨k1, k2, k3, oe, vs, T, oT, ts', he, hz, hd, h1, hr⟩ := id fl3
        unfold PySem.passOn
        refine wpAny_bind (wpAny_field he hd h1 ?_)
        rw [if_neg (show ¬ ((Value.ref T == Value.none) = true) from by simp)]
        have fin : wpAny (model X.prog X.w) X.A (setFlight (.ref a) X.env.frame) (fun _ s4 => wpAny (model X.prog X.w) X.A (throw (.ref a) : Sem Flow) (SP X pins D) X.xe s4) X.xe { s' with heap := h3 } := by
          rw [hf]
          refine HandSPX.setFlight_upZ fl3 fun h4 hh4 up4 => wpAny_throw (tk _ _ ?_)
          exact ⟨a, B, sI, pins, σ', H', cls, d, rfl, J, nb, (up.trans up3).trans up4, .inr (.inr (by rw [hs]; exact hh4)), na, os, ag, w⟩
        first
          | exact wpAny_bind (wpAny_pure (wpAny_bind fin))
          | exact wpAny_bind fin
      | @cons x c ts b₀ suite np pos' hds2 l2 hc hsu r ih =>
        intro w
        obtain ⟨b, hb1, hyes, hno⟩ := w
        refine wpAny_handleBy_cons (codeAny_handlers_test ?_) (by intro q; cases q)
        have LT : PySem.W.Looks (model X.prog X.w) h3 (typeOf (.ref a)) cls := fun A Q E s k q => wpAny_typeOf_ref (k _ _ he3) (by rw [hz3.1]; exact q)
        have LM := PySem.W.exm_one (M := model X.prog X.w) (J3.kIn) LT hb1
        have test : ∀ {Q : Value → Shared → Prop} {E : Value → Shared → Prop}, Q c { s' with heap := h3 } → wpAny (model X.prog X.w) (X.A.mark (some (.ref a))) (eval (.Name x np) X.env) Q E { s' with heap := h3 } := fun {Q E} q => by
          obtain ⟨hg, hdbg, hm | ⟨hm, hv, hnn⟩⟩ := hc
          · exact ld_glob (X := X.suite a ((a, oe3) :: (X.pn ++ pins))) S3 hg hm q hdbg
          · exact ld_blt (X := X.suite a ((a, oe3) :: (X.pn ++ pins))) S3 hg hm hv q hnn hdbg
        refine test (LM.here ?_)
        cases b with
        | true =>
          refine codeAny_handlers_suite ?_
          refine HandSPX.lands_againZ fl3 fun h4 fl4 up4 => ?_
          have J4 : Inv X pins σ' H' { s' with heap := h4 } := J.landed nb fl4.1 ((up.trans up3).trans up4) os ag
          obtain ⟨oe4, vs4, he4, hz4, hd4⟩ := fl4.there
          have S4 := J4.suite he4 hd4 na nL nF
          refine wpAny_mono ((hsu a oe4 cls d (X.pn ++ pins) hz4 ⟨_, hd4⟩).run [] _ _ H' _ S4 (hyes rfl a na)) (fun f s6 hsp => ?_) (fun _ _ z => False.elim z)
          cases f with
          | next =>
            obtain ⟨σ6, H6, S6, q6⟩ := hsp
            exact ⟨_, _, S6.unsuite ok, q6⟩
          | brk =>
            obtain ⟨σ6, H6, S6, q6⟩ := hsp
            exact ⟨_, _, S6.unsuite ok, q6⟩
          | cont =>
            obtain ⟨σ6, H6, S6, q6⟩ := hsp
            exact ⟨_, _, S6.unsuite ok, q6⟩
          | ret u =>
            obtain ⟨v6, σ6, H6, S6, r6, q6⟩ := hsp
            exact ⟨_, _, _, S6.unsuite ok, r6, q6⟩
        | false =>
          show wpAny _ X.A (handleBy (.ref a) X.env hds2) _ _ _
          exact ih (hno rfl)
      | @named x n c i ts b₀ suite np pos' hds2 l2 hc hi hln hsu r ih =>
        intro w
        obtain ⟨b, hb1, hyes, hno⟩ := w
        refine wpAny_handleBy_cons (codeAny_handlers_test ?_) (by intro q; cases q)
        have LT : PySem.W.Looks (model X.prog X.w) h3 (typeOf (.ref a)) cls := fun A Q E s k q => wpAny_typeOf_ref (k _ _ he3) (by rw [hz3.1]; exact q)
        have LM := PySem.W.exm_one (M := model X.prog X.w) (J3.kIn) LT hb1
        have test : ∀ {Q : Value → Shared → Prop} {E : Value → Shared → Prop}, Q c { s' with heap := h3 } → wpAny (model X.prog X.w) (X.A.mark (some (.ref a))) (eval (.Name x np) X.env) Q E { s' with heap := h3 } := fun {Q E} q => by
          obtain ⟨hg, hdbg, hm | ⟨hm, hv, hnn⟩⟩ := hc
          · exact ld_glob (X := X.suite a ((a, oe3) :: (X.pn ++ pins))) S3 hg hm q hdbg
          · exact ld_blt (X := X.suite a ((a, oe3) :: (X.pn ++ pins))) S3 hg hm hv q hnn hdbg
        refine test (LM.here ?_)
        cases b with
        | true =>
          refine codeAny_handlers_suite_as ?_
          refine HandSPX.lands_againZ fl3 fun h4 fl4 up4 => ?_
          have J4 : Inv X pins σ' H' { s' with heap := h4 } := J.landed nb fl4.1 ((up.trans up3).trans up4) os ag
          obtain ⟨oe4, vs4, he4, hz4, hd4⟩ := fl4.there
          have S4 := J4.suite he4 hd4 na nL nF
          refine store_ok (X := X.suite a ((a, oe4) :: (X.pn ++ pins))) (v := .ref a) S4 hN hi (.inl hln) rfl (fun s5 S5 => ?_) (.inr hln)
          refine wpAny_mono ((hsu a oe4 cls d (X.pn ++ pins) hz4 ⟨_, hd4⟩).run [] s5 _ H' _ S5 (hyes rfl a na)) (fun f s6 hsp => ?_) (fun _ _ z => False.elim z)
          have end_ : ∀ {σ6 : St} {H6 : Hp} {Q : Shared → Prop}, Inv (X.suite a ((a, oe4) :: (X.pn ++ pins))) [] σ6 H6 s6 → (∀ s7, Inv X pins (σ6.set i none) H6 s7 → Q s7) →
              wpAny (model X.prog X.w) X.A (do bindName X.env n .none; unbindBehindTheSuite X.env n pos') (fun _ s7 => Q s7) X.xe s6 := fun {σ6 H6 Q} S6 hq => gone_ok (S6.unsuite ok) hN hi hln hq
          cases f with
          | next =>
            obtain ⟨σ6, H6, S6, q6⟩ := hsp
            exact end_ S6 fun s7 J7 => ⟨_, _, J7, q6⟩
          | brk =>
            obtain ⟨σ6, H6, S6, q6⟩ := hsp
            exact end_ S6 fun s7 J7 => ⟨_, _, J7, q6⟩
          | cont =>
            obtain ⟨σ6, H6, S6, q6⟩ := hsp
            exact end_ S6 fun s7 J7 => ⟨_, _, J7, q6⟩
          | ret u =>
            obtain ⟨v6, σ6, H6, S6, r6, q6⟩ := hsp
            exact end_ S6 fun s7 J7 => ⟨_, _, _, J7, r6, q6⟩
        | false =>
          show wpAny _ X.A (handleBy (.ref a) X.env hds2) _ _ _
          exact ih (hno rfl)
    exact go hh w
  · cases f with
    | next =>
      obtain ⟨σ', H', J', q⟩ := hsp
      exact wpAny_execs_nil ⟨σ', H', J'.ofTry ok, q⟩
    | brk =>
      obtain ⟨σ', H', J', q⟩ := hsp
      exact ⟨σ', H', J'.ofTry ok, q⟩
    | cont =>
      obtain ⟨σ', H', J', q⟩ := hsp
      exact ⟨σ', H', J'.ofTry ok, q⟩
    | ret u =>
      obtain ⟨v, σ', H', J', r, q⟩ := hsp
      exact ⟨v, σ', H', J'.ofTry ok, r, q⟩
end
end L2
set_option Elab.async false
set_option linter.all false
set_option maxRecDepth 100000
set_option maxHeartbeats 2000000
namespace DL
open PySem PySem.Spec PyProof.Rows L2
structure Hd where
  cls : Str
  slot : Option Nat
  run : Ex → Sm
def unsetE (s : Option Nat) (env : Env) : Env := match s with
  | none => env
  | some i => env.set i none
def offS (s : Option Nat) : Sr → Sr
  | .go f e m => .go f (unsetE s e) m
  | _ => .stuck
def catchL (sub : Str → Str → Option Bool) : List Hd → Ex → Sm
  | [], x => fun env m => .exc x env m
  | h :: r, x => fun env m => match sub x.cls h.cls with
    | some true => offS h.slot (h.run x (unsetE h.slot env) m)
    | some false => catchL sub r x env m
    | none => .stuck
def sTry (sub : Str → Str → Option Bool) (b : Sm) (hs : List Hd) : Sm := fun env m => match b env m with
  | .exc x e1 m1 => catchL sub hs x e1 m1
  | r => r
/-- what an except clause's suite starts from -/
def tsX (K : Kw) (slot : Option Nat) (run : Ex → Sm) (a : Addr) (cls : Value) (d : Option Addr) : TS := fun D σ H =>
  ∃ ι env m x, EnvOk K ι H env σ ∧ MemOk K ι m H ∧ ExOk K ι H x cls d ∧ (∀ i, slot = some i → i < σ.length → σ[i]? = some (some (.ref a))) ∧ PostS K W0 D ι H (run x env m)
section
variable {X : Cx} {W : L2.WX} {sub : Str → Str → Option Bool}
theorem EnvOk.unset2 {K : Kw} {ι : List Addr} {H : Hp} {env : Env} {σ : L2.St} (h : EnvOk K ι H env σ) (i : Nat) (o : Option V) : EnvOk K ι H (env.set i none) (σ.set i o) := by
  refine ⟨by simp [h.1], fun j u e => ?_⟩
  by_cases hj : j = i
  · subst hj
    have hl : j < env.length := by have := get_of e; rwa [List.length_set] at this
    rw [List.getElem?_set_self hl] at e
    cases e
  · rw [List.getElem?_set_ne (Ne.symm hj)] at e
    rw [List.getElem?_set_ne (Ne.symm hj)]
    exact h.2 j u e
inductive HdsD (X : Cx) : List ExceptHandler → List Hd → Prop
  | nil : HdsD X [] []
  | cons {x : Str} {fs : List Str} {run : Ex → Sm} {b₀ : Stmt} {suite : List Stmt} {np pos' : Pos} {hds : List ExceptHandler} {l : List Hd} (hg : Gl X x) (hdb : (x == ("__debug__" : Str)) = false) (hk : EcF X.K X.mg x fs)
      (hsu : ∀ (a : Addr) (oe : Obj) (cls : Value) (d : Option Addr) (pn : List (Addr × Obj)), Zc cls d oe → (∃ vs, oe.data = .fields vs) → PSs (X.suite a ((a, oe) :: pn)) (b₀ :: suite) (tsX X.KW none run a cls d)) (r : HdsD X hds l) :
      HdsD X (.ExceptHandler (some (.Name x np)) none (b₀ :: suite) pos' :: hds) (⟨x, none, run⟩ :: l)
  | named {x n : Str} {fs : List Str} {i : Nat} {run : Ex → Sm} {b₀ : Stmt} {suite : List Stmt} {np pos' : Pos} {hds : List ExceptHandler} {l : List Hd} (hg : Gl X x) (hdb : (x == ("__debug__" : Str)) = false) (hk : EcF X.K X.mg x fs)
      (hi : X.N[i]? = some n) (hln : X.env.kindOf n = some .local)
      (hsu : ∀ (a : Addr) (oe : Obj) (cls : Value) (d : Option Addr) (pn : List (Addr × Obj)), Zc cls d oe → (∃ vs, oe.data = .fields vs) → PSs (X.suite a ((a, oe) :: pn)) (b₀ :: suite) (tsX X.KW (some i) run a cls d)) (r : HdsD X hds l) :
      HdsD X (.ExceptHandler (some (.Name x np)) (some n) (b₀ :: suite) pos' :: hds) (⟨x, some i, run⟩ :: l)
theorem PostS.off {K : Kw} {ι : List Addr} {H : Hp} {D : Ends} {i : Nat} {r : Sr} (h : PostS K W D ι H (offS (some i) r)) : PostS K W0 (offE i D) ι H r := by
  cases r with
  | stuck => exact h.elim
  | exc x e m => exact (show False from h).elim
  | go f e m =>
    cases f with
    | nx => exact fun ι1 H1 σ1 st mo eo => h ι1 H1 (σ1.set i none) st mo (eo.unset2 i none)
    | bk => exact fun ι1 H1 σ1 st mo eo => h ι1 H1 (σ1.set i none) st mo (eo.unset2 i none)
    | ct => exact fun ι1 H1 σ1 st mo eo => h ι1 H1 (σ1.set i none) st mo (eo.unset2 i none)
    | rt w => exact fun ι1 H1 v st mo r => h ι1 H1 v st mo r
theorem PostS.off0 {K : Kw} {ι : List Addr} {H : Hp} {D : Ends} {r : Sr} (h : PostS K W D ι H (offS none r)) : PostS K W0 D ι H r := by
  cases r with
  | stuck => exact h.elim
  | exc x e m => exact (show False from h).elim
  | go f e m => cases f <;> exact h
theorem hdsD_mix (hsb : SubK X.K sub) {hds : List ExceptHandler} {hs : List Hd} (h : HdsD X hds hs) : ∃ l, HdsM X hds l ∧ ∀ (D : Ends) (ι : List Addr) (H : Hp) (σ : L2.St) (env : Env) (m : Mm) (x : Ex) (cls : Value) (d : Option Addr),
    EnvOk X.KW ι H env σ → MemOk X.KW ι m H → ExOk X.KW ι H x cls d → PostS X.KW W D ι H (catchL sub hs x env m) → wMix X.K W D l cls d σ H := by
  induction h with
  | nil => exact ⟨[], .nil, fun D ι H σ env m x cls d eo mo xo p => p ι H σ cls d .refl mo eo xo⟩
  | @cons x fs run b₀ suite np pos' hds l hg hdb hk hsu r ih =>
    obtain ⟨l', h', k'⟩ := ih
    refine ⟨(.ref (He.ga X.K x), none, tsX X.KW none run) :: l', .cons ⟨hg, hdb, .inl hk.mgC⟩ hsu h', fun D ι H σ env m ex cls d eo mo xo p => ?_⟩
    obtain ⟨C0, hC0, rfl, hf⟩ := id xo
    have p' : PostS X.KW W D ι H (match sub ex.cls x with
      | some true => offS none (run ex env m)
      | some false => catchL sub l ex env m
      | none => .stuck) := p
    cases e : sub ex.cls x with
    | none => rw [e] at p'; exact p'.elim
    | some b =>
      refine ⟨b, hsb _ _ _ _ _ e hC0 hk.ns, fun hb a ha => ?_, fun hb => ?_⟩
      · subst hb
        rw [e] at p'
        exact ⟨ι, env, m, ex, eo, mo, xo, fun i z => by (cases z), p'.off0⟩
      · subst hb
        rw [e] at p'
        exact k' D ι H σ env m ex _ d eo mo xo p'
  | @named x n fs i run b₀ suite np pos' hds l hg hdb hk hi hln hsu r ih =>
    obtain ⟨l', h', k'⟩ := ih
    refine ⟨(.ref (He.ga X.K x), some i, tsX X.KW (some i) run) :: l', .named ⟨hg, hdb, .inl hk.mgC⟩ hi hln hsu h', fun D ι H σ env m ex cls d eo mo xo p => ?_⟩
    obtain ⟨C0, hC0, rfl, hf⟩ := id xo
    have p' : PostS X.KW W D ι H (match sub ex.cls x with
      | some true => offS (some i) (run ex (env.set i none) m)
      | some false => catchL sub l ex env m
      | none => .stuck) := p
    cases e : sub ex.cls x with
    | none => rw [e] at p'; exact p'.elim
    | some b =>
      refine ⟨b, hsb _ _ _ _ _ e hC0 hk.ns, fun hb a ha => ?_, fun hb => ?_⟩
      · subst hb
        rw [e] at p'
        refine ⟨ι, env.set i none, m, ex, eo.unset2 i _, mo, xo, fun j z hj => ?_, p'.off⟩
        cases z
        rw [List.length_set] at hj
        exact List.getElem?_set_self hj
      · subst hb
        rw [e] at p'
        exact k' D ι H σ env m ex _ d eo mo xo p'
theorem ds_try {body : List Stmt} {h₀ : ExceptHandler} {hds : List ExceptHandler} {hs : List Hd} {pos : Pos} {b : Sm} (hst : X.stack = X.env :: X.outer) (hf : X.env.frame = some X.env.locals) (hN : X.N.Nodup) (tk : Takes X W) (hsb : SubK X.K sub)
    (hb : ∀ (W' : WX) (pn : List (Addr × Obj)) (xe : Value → Shared → Prop), Takes (X.tr pn xe) W' → PassesOwn (model X.prog X.w) X.A X.env xe → PSs (X.tr pn xe) body (tS X.KW W' b)) (hh : HdsD X (h₀ :: hds) hs) :
    PS X (.Try body (h₀ :: hds) [] [] pos) (tS X.KW W (sTry sub b hs)) := by
  obtain ⟨l, hl, k⟩ := hdsD_mix (W := W) hsb hh
  refine PSimp (ps_try_mix (tb := fun W' => tS X.KW W' b) hst hf tk hb hN hl) fun D σ H ⟨ι, env, m, eo, mo, p⟩ => ⟨ι, env, m, eo, mo, ?_⟩
  have p' : PostS X.KW W D ι H (match b env m with
    | .exc x e1 m1 => catchL sub hs x e1 m1
    | r => r) := p
  cases e : b env m with
  | stuck => rw [e] at p'; exact p'
  | go f e1 m1 => rw [e] at p'; cases f <;> exact p'
  | exc x e1 m1 =>
    rw [e] at p'
    exact fun ι1 H1 σ1 cls d st mo1 eo1 xo => k D ι1 H1 σ1 e1 m1 x cls d eo1 mo1 xo (PostS.step st p')
inductive Lf where
  | c (d : PyData) | f (n : Str)
def tLf (K : Kw) (a C : Addr) (cls : Value) (d : Option Addr) (i : Nat) : Lf → TE
  | .c x => fun σ H Q => ∀ v, RelD K H x v → Q v H
  | .f n => fun σ H Q => ∃ dd gs v, (i < σ.length → σ[i]? = some (some (.ref a))) ∧ cls = .ref C ∧ d = some dd ∧ H dd = some (.xd gs) ∧ gs.lookup n = some v ∧ Q v H
theorem pe_lfF {a C : Addr} {oe : Obj} {cls : Value} {d : Option Addr} {pn : List (Addr × Obj)} {i : Nat} {n f : Str} {p pos : Pos} (T : XfC X.K C) (hno : PySem.W.findIn X.K (.ref C) f = some none) (hz : Zc cls d oe) (hf : ∃ vs, oe.data = .fields vs)
    (hN : X.N[i]? = some n) (hv : Vis X.env.scope n) (hd : (n == ("__debug__" : Str)) = false := by decide) (hcd : (n == ("__classdict__" : Str)) = false := by decide) (hb : attributeBase (.Name n p) f X.env (eval (.Name n p) X.env) = eval (.Name n p) X.env := by rfl) :
    PE (X.suite a ((a, oe) :: pn)) (.Attribute (.Name n p) f pos) (tLf X.KW a C cls d i (.f f)) := by
  refine ⟨fun pins s σ H Q I h => ?_⟩
  obtain ⟨dd, gs, v, h1, h2, h3, h4, h5, h6⟩ := h
  have hl : i < σ.length := by rw [I.len]; exact get_of hN
  exact (pe_xf (X := X) (e := .Name n p) (te := tVar i) T hno hz hf (pe_var (X := X.suite a ((a, oe) :: pn)) hN hv hd hcd) hb).run pins s σ H Q I ⟨.ref a, h1 hl, rfl, h2, dd, gs, v, h3, h4, h5, h6⟩
end
end DL
set_option Elab.async false
set_option linter.all false
set_option maxRecDepth 100000
set_option maxHeartbeats 2000000
namespace DL
open PySem PySem.Spec PyProof.Rows L2
/-- the i-th statement of a class -/
def clsStm (st : Stmt) (i : Nat) : Stmt := match st with
  | .ClassDef (body := b) .. => b.getD i (.Pass ⟨0, 0, 0, 0⟩)
  | _ => .Pass ⟨0, 0, 0, 0⟩
theorem iniFree {l : List (Str × NameKind)} (h : ∀ p ∈ l, p.2 = .free → p.1 = ("__class__" : Str)) : ∀ y, l.lookup y = some .free → y = ("__class__" : Str) := fun y e => h _ (PySem.mem_of_lookup e) rfl
theorem ini_no {K : PySem.W.Frag} {C : Addr} {fs : List (Str × Nat)} {d : List Str} {n : Nat} (h : ∀ f ∈ d, PySem.W.findIn K (.ref C) f = some none) (e : fs.map (·.1) = d) (b : ∀ p ∈ fs, p.2 < n) : ∀ p ∈ fs, PySem.W.findIn K (.ref C) p.1 = some none ∧ p.2 < n :=
  fun p hp => ⟨h _ (by rw [← e]; exact List.mem_map_of_mem hp), b p hp⟩
end DL
set_option Elab.async false
set_option linter.all false
set_option maxRecDepth 100000
set_option maxHeartbeats 2000000
namespace DL
open PySem PySem.Spec PyProof.Rows L2
end DL
set_option Elab.async false
set_option linter.all false
set_option maxRecDepth 100000
set_option maxHeartbeats 2000000
namespace DL
open PySem PySem.Spec PyProof.Rows L2
/-- sep.join(xs) -/
def joinR (a : Str) (y : Wd) (m : Mm) : Option (Wd × Mm) := match seqOf m y with
  | some xs => match strsW xs with
    | some ys => if (ys.map (·.length)).sum + ys.length * a.length ≤ 16777216 then some (.d (.str (Txt.join a ys)), m) else none
    | none => none
  | none => none
def eJoin (fo fe : Em Wd) : Em Wd := fun env m => (fo env m).bind fun w m1 => match w with
  | .d (.str a) => (fe env m1).bind fun y m2 => Rs.of (joinR a y m2)
  | _ => .stuck
section
variable {X : Cx} {W : L2.WX}
theorem de_join {o e : Expr} {apos pos : Pos} {fo fe : Em Wd} (ho : PE X o (tE X.KW W fo)) (he : PE X e (tE X.KW W fe)) (hs : starEach [e] X.env = [(false, eval e X.env)] := by rfl) (hbase : attributeBase o "join" X.env (eval o X.env) = eval o X.env := by rfl) (hline : (apos.endLine == pos.line) = true := by rfl) :
    PE X (.Call (.Attribute o "join" apos) [e] [] pos) (tE X.KW W (eJoin fo fe)) :=
  PEimp (pe_join ho he hs hbase hline) fun σ H Q ⟨ι, env, m, eo, mo, p⟩ => Post.bind eo mo p fun ι1 H1 w x m1 st1 mo1 eo1 ra p1 => by
    split at p1
    · rename_i a
      refine ⟨⟨a, relW_str ra⟩, Post.bind eo1 mo1 p1 fun ι2 H2 y v m2 st2 mo2 eo2 rb p2 => ?_⟩
      unfold joinR at p2
      split at p2
      · rename_i xs e1
        split at p2
        · rename_i ys e2
          split at p2
          · rename_i hl
            obtain ⟨b, vs, rfl, h1, rv⟩ := seqOf_ok mo2 e1 rb
            have ev := strs_ok rv e2
            subst ev
            exact ⟨a, b, ys, relW_str ra, rfl, h1, hl, post_ok p2 mo2 (.d (.str _))⟩
          · exact p2.elim
        · exact p2.elim
      · exact p2.elim
    · exact p1.elim
end
end DL
set_option Elab.async false
set_option linter.all false
set_option maxRecDepth 100000
set_option maxHeartbeats 2000000
namespace DL
open PySem PySem.Spec PyProof.Rows L2
end DL
set_option Elab.async false
set_option linter.all false
set_option maxRecDepth 100000
namespace L2
open PySem PySem.Spec PyProof.Rows
end L2
namespace DL
open PySem PySem.Spec PyProof.Rows L2
end DL
set_option Elab.async false
set_option linter.all false
set_option maxRecDepth 100000
set_option maxHeartbeats 2000000
set_option Elab.async false
set_option linter.all false
set_option maxRecDepth 100000
set_option maxHeartbeats 2000000
namespace DL
open PySem PySem.Spec PyProof.Rows L2
/-- a clause whose suite only gives a value back -/
structure Hc where
  cls : Str
  slot : Option Nat
  val : Ex → Option Wd
def Hc.hd (h : Hc) : Hd := ⟨h.cls, h.slot, fun x env m => match h.val x with
  | some w => .go (.rt w) env m
  | none => .stuck⟩
end DL
set_option Elab.async false
set_option linter.all false
set_option maxRecDepth 100000
set_option maxHeartbeats 2000000
namespace DL
open PySem PySem.Spec PyProof.Rows L2
def codeA (K : PySem.W.Frag) (x : Str) : Addr := match PySem.W.nsIn K mainGlobals x with
  | some (some (.ref f)) => (match K.lookup f with
    | some ⟨_, _, .func fd, _⟩ => (match fd.code with
      | .ref c => c
      | _ => 0)
    | _ => 0)
  | _ => 0
def tabA (K : PySem.W.Frag) (x : Str) : Addr := (tabP K x).getD 0
def lamB (K : PySem.W.Frag) (x : Str) : Bool := (tabP K x).isSome && (PySem.W.codeHdIn K (codeA K x) (tabA K x) && (K.lookup (tabA K x)).isNone)
theorem tabP_A {K : PySem.W.Frag} {x : Str} (h : lamB K x = true) : tabP K x = some (tabA K x) := by
  unfold lamB at h
  rw [Bool.and_eq_true] at h
  unfold tabA
  cases e : tabP K x with
  | none => rw [e] at h; cases h.1
  | some P => rfl
abbrev tobj : Obj := { cls := .none, data := .fields #[] }
abbrev AlT : Type := AlR × Bool × List (Option Obj)
structure SaysT (file : Str) (fa : List He.Fa) (fn : List He.DefD) (cs : List (Str × PyData)) (er : List ErD) (ec : List (Str × List Str)) (sb : List ((Str × Str) × Bool)) (lm : List Str) (K : PySem.W.Frag) (h : Heap) : Prop where
  r : SaysR file fa fn cs er ec sb K
  l : lm.all (lamB K) = true
  n : (lm.map (tabA K)).Nodup
  t : ∀ x ∈ lm, h.get? (tabA K x) = some tobj
def asT (n : Nat) (lm : List Str) (g : Addr → Option Obj) : List Addr := let ts := lm.map (tabA (kR n g)); (cStatics :: He.asD g n).filter fun a => !(ts.contains a)
def kT (n : Nat) (lm : List Str) (g : Addr → Option Obj) : PySem.W.Frag := He.frG g (asT n lm g)
def obsK (file : Str) (fa : List He.Fa) (fn : List He.DefD) (cs : List (Str × PyData)) (er : List ErD) (ec : List (Str × List Str)) (sb : List ((Str × Str) × Bool)) (K : PySem.W.Frag) : AlR :=
  (He.obsD fa fn K, cs.all (conF K) && er.all (erB file K) && ec.all (ecB K) && sb.all (sbB K), er.map fun d => fnR K d.cls)
def obsT (file : Str) (n : Nat) (fa : List He.Fa) (fn : List He.DefD) (cs : List (Str × PyData)) (er : List ErD) (ec : List (Str × List Str)) (sb : List ((Str × Str) × Bool)) (lm : List Str) (g : Addr → Option Obj) : AlT :=
  (obsK file fa fn cs er ec sb (kT n lm g), lm.all (lamB (kT n lm g)) && decide (lm.map (tabA (kT n lm g))).Nodup, lm.map fun x => g (tabA (kT n lm g) x))
def hookT (file : Str) (n : Nat) (fa : List He.Fa) (fn : List He.DefD) (cs : List (Str × PyData)) (er : List ErD) (ec : List (Str × List Str)) (sb : List ((Str × Str) × Bool)) (lm : List Str) : PySem.W.Hook where
  α := AlT
  obs := fun s => obsT file n fa fn cs er ec sb lm s.heap.get?
  val := fun _ => ((He.valD fn, true, er.map ErD.val), true, lm.map fun _ => some tobj)
  says := fun _ h => ∃ K : PySem.W.Frag, K.In h ∧ SaysT file fa fn cs er ec sb lm K h
  of := fun w s e => by
    have e0 : obsK file fa fn cs er ec sb (kT n lm s.heap.get?) = (He.valD fn, true, er.map ErD.val) := congrArg (·.1) e
    have e1 : He.obsD fa fn (kT n lm s.heap.get?) = He.valD fn := congrArg (·.1) e0
    have e2 : (cs.all (conF (kT n lm s.heap.get?)) && er.all (erB file (kT n lm s.heap.get?)) && ec.all (ecB (kT n lm s.heap.get?)) && sb.all (sbB (kT n lm s.heap.get?))) = true := congrArg (·.2.1) e0
    have e3 : er.map (fun d => fnR (kT n lm s.heap.get?) d.cls) = er.map ErD.val := congrArg (·.2.2) e0
    have e4 : (lm.all (lamB (kT n lm s.heap.get?)) && decide (lm.map (tabA (kT n lm s.heap.get?))).Nodup) = true := congrArg (·.2.1) e
    have e5 : lm.map (fun x => s.heap.get? (tabA (kT n lm s.heap.get?) x)) = lm.map fun _ => some tobj := congrArg (·.2.2) e
    simp only [Bool.and_eq_true] at e2 e4
    exact ⟨_, He.frG_in, ⟨e1, e2.1.1.1, e2.1.1.2, e3, e2.1.2, e2.2⟩, e4.1, of_decide_eq_true e4.2, List.map_inj_left.mp e5⟩
  keeps := fun _ _ _ ⟨K, hK, c⟩ k => ⟨K, PySem.W.Frag.In.keeps hK k, c.r, c.l, c.n, fun x hx => k _ _ (c.t x hx)⟩
theorem obsT_eq {file : Str} {n : Nat} {fa : List He.Fa} {fn : List He.DefD} {cs : List (Str × PyData)} {er : List ErD} {ec : List (Str × List Str)} {sb : List ((Str × Str) × Bool)} {lm : List Str} {g : Addr → Option Obj} {s : Shared} (h : ∀ a, g a = s.heap.get? a) : obsT file n fa fn cs er ec sb lm g = (hookT file n fa fn cs er ec sb lm).obs s := by
  have e : g = s.heap.get? := funext h
  rw [e] <;> rfl
/-- how the law's run begins: the script, the tables -/
def tabCs (tl : List (Str × Str)) : List Cell := tl.map fun p => .tab p.1 p.2
inductive Begin (tl : List (Str × Str)) (ns : List Int) : Wd → Mm → Prop
  | rol : Begin tl ns (scriptW ns) ⟨tabCs tl, []⟩
  | lst : Begin tl ns (.ref (tabCs tl).length) ⟨tabCs tl ++ [.lst (ns.map fun i => .d (.int i))], []⟩
theorem law_endT {K : PySem.W.Frag} {w0 : World} {H : Hp} {a : Addr} {ns : List Int} {F : Fn} {tl : List (Str × Str)} (hl : ∀ x ∈ tl.map (·.1), lamB K x = true) (hn : ((tl.map (·.1)).map (tabA K)).Nodup) (hH : ∀ x ∈ tl.map (·.1), H (tabA K x) = some (.tbl #[])) (h : SqL K H a (ns.map V.int))
    (hF : ∀ w m, Begin tl ns w m → ∃ m', F [w] m = .ok (.d (.bool true)) m') : spD ⟨K, w0⟩ 1 F [.ref a] H (fun v _ => v = .bl true) fun _ _ _ => False := by
  have mo : ∀ n a c, ((tl.map (·.1)).map (tabA K))[n]? = some a → (tabCs tl)[n]? = some c → CellOk ⟨K, w0⟩ ((tl.map (·.1)).map (tabA K)) H a c ∧ ∀ ι, CellOk ⟨K, w0⟩ ι H a c := fun n a c h1 h2 => by
    unfold tabCs at h2
    rw [List.getElem?_map, List.getElem?_map] at h1
    rw [List.getElem?_map] at h2
    cases q : tl[n]? with
    | none => rw [q] at h1; cases h1
    | some p =>
      rw [q] at h1 h2
      simp only [Option.map_some, Option.some.injEq] at h1 h2
      subst h1 h2
      have hm : p.1 ∈ tl.map (·.1) := List.mem_map.mpr ⟨p, List.mem_of_getElem? q, rfl⟩
      exact ⟨⟨tabP_A (hl _ hm), LamX.TabS.nil (hH _ hm)⟩, fun ι => ⟨tabP_A (hl _ hm), LamX.TabS.nil (hH _ hm)⟩⟩
  rcases h with (h | ⟨o, h⟩) | h
  · obtain ⟨m', e⟩ := hF _ _ .lst
    have hni : a ∉ (tl.map (·.1)).map (tabA K) := fun z => by
      obtain ⟨x, hx, e⟩ := List.mem_map.mp z
      have := hH x hx
      rw [e, h] at this
      cases this
    have hlen : ((tl.map (·.1)).map (tabA K)).length = (tabCs tl).length := by simp [tabCs]
    refine ⟨(tl.map (·.1)).map (tabA K) ++ [a], ⟨tabCs tl ++ [.lst (ns.map fun i => .d (.int i))], []⟩, [.ref (tabCs tl).length], rfl, ⟨by simp [tabCs], ?_, fun n b c h1 h2 => ?_, (fun _ h => nomatch h), .nil, (fun _ h => nomatch h)⟩, .cons (.ref (by rw [← hlen]; simp)) .nil, ?_⟩
    · rw [List.nodup_append]
      exact ⟨hn, by simp, fun x hx y hy e => hni (by rw [List.mem_singleton.mp hy] at e; rw [← e]; exact hx)⟩
    · by_cases hlt : n < (tabCs tl).length
      · rw [List.getElem?_append_left (by rw [hlen]; exact hlt)] at h1
        have h2' : (tabCs tl ++ [Cell.lst (ns.map fun i => Wd.d (.int i))])[n]? = some c := h2
        rw [List.getElem?_append_left hlt] at h2'
        exact (mo n b c h1 h2').2 _
      · have h2' : (tabCs tl ++ [Cell.lst (ns.map fun i => Wd.d (.int i))])[n]? = some c := h2
        have hl2 := get_of h2'
        rw [List.length_append, List.length_singleton] at hl2
        have e : n = (tabCs tl).length := by omega
        subst e
        have e1 : b = a := by rw [← hlen] at h1; simpa using h1.symm
        have e2 : c = Cell.lst (ns.map fun i => Wd.d (.int i)) := by simpa using h2'.symm
        subst e1 e2
        exact ⟨_, h, relInts ns⟩
    · rw [e]
      exact fun ι' H' b st mo r => relW_bl r
  · obtain ⟨m', e⟩ := hF _ _ .rol
    refine ⟨(tl.map (·.1)).map (tabA K), ⟨tabCs tl, []⟩, [scriptW ns], rfl, ⟨by simp [tabCs], hn, fun n a c h1 h2 => (mo n a c h1 h2).1, (fun _ h => nomatch h), .nil, (fun _ h => nomatch h)⟩, .cons (.rol (.inl ⟨o, h⟩) (relInts ns)) .nil, ?_⟩
    rw [e]
    exact fun ι' H' b st mo r => relW_bl r
  · obtain ⟨m', e⟩ := hF _ _ .rol
    refine ⟨(tl.map (·.1)).map (tabA K), ⟨tabCs tl, []⟩, [scriptW ns], rfl, ⟨by simp [tabCs], hn, fun n a c h1 h2 => (mo n a c h1 h2).1, (fun _ h => nomatch h), .nil, (fun _ h => nomatch h)⟩, .cons (.rol (.inr h) (relInts ns)) .nil, ?_⟩
    rw [e]
    exact fun ι' H' b st mo r => relW_bl r
end DL
set_option Elab.async false
set_option linter.all false
set_option maxRecDepth 100000
set_option maxHeartbeats 2000000
namespace DL
open PySem PySem.Spec PyProof.Rows L2
mutual
def nrm : Wd → Wd
  | .tup ws => mkTup (nrms ws)
  | .d x => .d x
  | .ref n => .ref n
  | .rol ws => .rol ws
  | .v x => .v x
def nrms : List Wd → List Wd
  | [] => []
  | w :: ws => nrm w :: nrms ws
end
end DL
set_option Elab.async false
set_option linter.all false
set_option maxRecDepth 100000
set_option maxHeartbeats 2000000
namespace DL
open PySem PySem.Spec PyProof.Rows L2
section
variable {K : Kw} {W : L2.WX} {ι : List Addr} {H : Hp} {σ : L2.St} {m : Mm} {X : Cx} {pins : List (Addr × Obj)} {s : Shared}
def RelOW (K : Kw) (ι : List Addr) (H : Hp) (r : Option Wd) (o : Option V) : Prop := (r = none ∧ o = none) ∨ ∃ w v, r = some w ∧ o = some v ∧ RelW K ι H w v
/-- how a dict holds what it holds -/
def Holds (X : Cx) (ι : List Addr) (H : Hp) (s : Shared) (a : Addr) (y : V) (r : Option Wd) : Prop :=
  (∃ o, DGet H a y o ∧ RelOW X.KW ι H r o) ∨
  (∃ b k xs, y = .ref b ∧ (nestedKind X.prog X.w).is s.heap k b ∧ s.heap.DictOfH (nestedKind X.prog X.w) a xs ∧ (a == sysModules) = false ∧
    ((r = none ∧ atKey xs k = none) ∨ ∃ w c u v, r = some w ∧ atKey xs k = some (c, u) ∧ RelW X.KW ι H w v ∧ RelV v u)) ∨
  ∃ k xs, (∀ u, RelV y u → KIs s.heap k u) ∧ GDict s.heap X.w a xs ∧ (a == sysModules) = false ∧
    ((r = none ∧ gAt xs k = none) ∨ ∃ w u v, r = some w ∧ gAt xs k = some u ∧ RelW X.KW ι H w v ∧ RelV v u)
end
end DL
set_option Elab.async false
set_option linter.all false
set_option maxRecDepth 100000
set_option maxHeartbeats 2000000
namespace DL
open PySem PySem.Spec PyProof.Rows L2
end DL
set_option Elab.async false
set_option linter.all false
set_option maxRecDepth 100000
set_option maxHeartbeats 2000000
namespace DL
open PySem PySem.Spec PyProof.Rows L2
end DL
set_option Elab.async false
set_option linter.all false
set_option maxRecDepth 100000
set_option maxHeartbeats 2000000
namespace DL
open PySem PySem.Spec PyProof.Rows L2
end DL
set_option Elab.async false
set_option linter.all false
set_option maxRecDepth 100000
set_option maxHeartbeats 2000000
namespace DL
open PySem PySem.Spec PyProof.Rows L2
end DL
namespace DL
open PySem PySem.Spec PyProof.Rows L2
end DL
set_option Elab.async false
set_option linter.all false
set_option maxRecDepth 100000
set_option maxHeartbeats 2000000
namespace DL
open PySem PySem.Spec PyProof.Rows L2
end DL
set_option Elab.async false
set_option linter.all false
set_option maxRecDepth 100000
set_option maxHeartbeats 2000000
namespace DL
open PySem PySem.Spec PyProof.Rows L2
end DL
namespace DL
open PySem PySem.Spec PyProof.Rows L2
end DL
namespace DL
open PySem PySem.Spec PyProof.Rows L2
end DL
set_option Elab.async false
set_option linter.all false
set_option maxRecDepth 100000
set_option maxHeartbeats 4000000
namespace L2
open PySem PySem.Spec PyProof.Rows
def keyQ (e : Int × Value) : Key := match e.2 with | .int k _ => .inl k | .str x _ => .inr x | _ => .inl 0
def GoodQ (w : World) (e : Int × Value) : Prop := ∃ k : Key, keyIs k e.2 = true ∧ e.1 = keyH w k
def SetQ (w : World) (h : Heap) (a : Addr) (S : Key → Bool) (n : Nat) : Prop :=
  ∃ o es ep t, h.get? a = some o ∧ o.ExactSet ∧ o.data = .set es ep t ∧ (∀ e ∈ es.toList, GoodQ w e) ∧ (es.toList.map keyQ).Nodup ∧ (∀ k, S k = true ↔ k ∈ es.toList.map keyQ) ∧ es.size < scanBound ∧
    t.fits es.size = true ∧ es.size = n ∧ Ris t.place.toList ∧ (w.params.followText "set-order" = true ∨ t.led = true)
instance memKey (j : Key) : ∀ l : List Key, Decidable (j ∈ l)
  | [] => .isFalse (by simp)
  | x :: l => if h : j = x then .isTrue (by rw [h]; exact List.mem_cons_self) else match memKey j l with
    | .isTrue h2 => .isTrue (List.mem_cons_of_mem _ h2)
    | .isFalse h2 => .isFalse fun z => (List.mem_cons.mp z).elim h h2
section
variable {P : Program} {w : World} {h h' : Heap} {a : Addr} {S : Key → Bool} {n : Nat}
theorem SetQ.at (R : SetQ w h a S n) (k : ∀ o, h.get? a = some o → h'.get? a = some o) : SetQ w h' a S n := by
  obtain ⟨o, es, ep, t, ho, r⟩ := R
  exact ⟨o, es, ep, t, k o ho, r⟩
theorem SetQ.lt (R : SetQ w h a S n) : a < h.objs.size := by
  obtain ⟨o, es, ep, t, ho, r⟩ := R
  exact Heap.lt_size ho
end
end L2
set_option Elab.async false
set_option linter.all false
set_option maxRecDepth 100000
set_option maxHeartbeats 2000000
namespace DL
open PySem PySem.Spec PyProof.Rows L2
end DL
set_option Elab.async false
set_option linter.all false
set_option maxRecDepth 100000
set_option maxHeartbeats 2000000
namespace DL
open PySem PySem.Spec PyProof.Rows L2
def pairW (w : Wd) : Option (Key × Wd) := match tupOf w with
  | some [k, x] => (keyW (nrm k)).map fun k => (k, x)
  | _ => none
def pairsW : List Wd → Option (List (Key × Wd))
  | [] => some []
  | w :: r => (match pairW w, pairsW r with
    | some p, some l => some (p :: l)
    | _, _ => none)
section
variable {K : Kw} {W : L2.WX} {ι : List Addr} {H : Hp} {σ : L2.St} {m : Mm} {X : Cx} {pins : List (Addr × Obj)} {s : Shared}
def nsW : List Wd → Option (List Int)
  | [] => some []
  | .d (.int i) :: r => (nsW r).map (i :: ·)
  | _ :: _ => none
theorem nsW_ok : ∀ {xs : List Wd} {ns : List Int} {vs : List V}, nsW xs = some ns → RelWs K ι H xs vs → vs = ns.map V.int
  | [], _, _, e, .nil => by cases e; rfl
  | w :: r, ns, _, e, .cons rw' rs => by
    cases w with
    | d x =>
      cases x with
      | int i =>
        obtain ⟨l, h1, h2⟩ := Option.map_eq_some_iff.mp (show (nsW r).map (i :: ·) = some ns from e)
        subst h2
        rw [relW_int rw', nsW_ok h1 rs]; rfl
      | _ => cases e
    | _ => cases e
/-- the ints of a list -/
def lnsW (w : Wd) (m : Mm) : Option (List Int) := match w with
  | .ref n => (match m.cells[n]? with
    | some (.lst xs) => nsW xs
    | _ => none)
  | _ => none
theorem lnsW_ok {w : Wd} {ns : List Int} {v : V} (mo : MemOk K ι m H) (e : lnsW w m = some ns) (r : RelW K ι H w v) : ∃ a, v = .ref a ∧ SqL K H a (ns.map V.int) := by
  unfold lnsW at e
  split at e
  · split at e
    · rename_i n xs hc
      obtain ⟨a, rfl, ea⟩ := relW_ref r
      obtain ⟨vs, q, rv⟩ := mo.cell _ _ _ ea hc
      have := nsW_ok e rv
      subst this
      exact ⟨a, rfl, SqL.of q⟩
    · cases e
  · cases e
def sumO1 : OpN := fun ws m => match ws with
  | [w] => (match lnsW w m with
    | some ns => some (.d (.int ns.sum), m)
    | none => none)
  | _ => none
theorem o_sum1 (hc : X.calm = true) : CallR X (.builtin "sum") (rON X.KW sumO1) := by
  refine CallRimp (cr_sum hc) fun xs H Q ⟨ι, m, ws, mo, ra, p⟩ => ?_
  unfold sumO1 at p
  split at p
  · rename_i w
    split at p
    · rename_i ns e
      obtain ⟨v, rfl, r1⟩ := vals_one ra
      obtain ⟨a, rfl, h⟩ := lnsW_ok mo e r1
      exact ⟨a, _, rfl, h, post_ok p mo (.d (.int _))⟩
    · exact p.elim
  · exact p.elim
end
end DL
set_option Elab.async false
set_option linter.all false
set_option maxRecDepth 100000
set_option maxHeartbeats 2000000
namespace L2
open PySem PySem.Spec PyProof.Rows
/-- a def's promise where no repr is under way -/
structure FnG (P : Program) (w : World) (K : PySem.W.Frag) (mg : Str → Option Value) (base : Heap) (CX : CXT) (k : Nat) (f : Addr) (fd : FuncData) (ps : List Str) (sp : Sp) : Prop where
  len : ∀ vs H Q E, sp vs H Q E → vs.length = ps.length
  run : ∀ (A : Around) (outer : List Env) (s : Shared) (H : Hp) (args : Args) (us : List Value) (vs : List V) (Q : VK) (E : XK), A.guards = some [] → Room k A → Env0 P w K mg base A outer s H → BindsTo s fd args (ps.zip us) → Vals vs us → sp vs H Q E → codeAny (model P w) A (.call (.ref f) args) (CR CX outer P w H s Q E) s
theorem fn_ofG {CX : CXT} {P : Program} {w : World} {K : PySem.W.Frag} {mg : Str → Option Value} {base : Heap} {k : Nat} {f : Addr} {name qual : Str} {params : Arguments} {body : List Stmt} {scope : Scope} {dV kV doc pm cdv ct oc : Value} {an od : Option Addr}
    {osl : Array (Option Value)} {N ps : List Str} {sp : Sp} (lk : K.lookup f = some ⟨oc, od, .func (PySem.W.fnOf name qual params body scope dV kV doc pm an cdv ct), osl⟩) (hcd : PySem.W.codeIn K cdv qual = true) (S : FnScope N ps scope)
    (len : ∀ vs H Q E, sp vs H Q E → vs.length = ps.length)
    (hbody : ∀ (A : Around) (outer : List Env) (s : Shared) (H : Hp) (vs : List V) (Q : VK) (E : XK), A.guards = some [] → Room k (A.deeper (envOfC qual scope s.heap.objs.size f cdv)) → sp vs H Q E →
      ∃ t, PSs (cxOf CX P w K mg base N qual scope f cdv A outer s H E) body t ∧ t { nx := fun _ H' => Q .non H', rt := Q } (start N vs) H) :
    FnG P w K mg base CX (k + 1) f (PySem.W.fnOf name qual params body scope dV kV doc pm an cdv ct) ps sp := by
  refine ⟨len, fun A outer s H args us vs Q E hgd hr e0 hb r hsp => ?_⟩
  have hl := len _ _ _ _ hsp
  have KX : K.In s.heap := e0.mod.kin.keeps fun b o e => (e0.bs b o e).1
  have lim : s.heap.NoLimit := e0.mod.nolimit.keeps fun b o e => (e0.bs b o e).1
  have hkind : ∀ y ∈ ps.zip us, scope.names.lookup y.1 = some .local ∨ (scope.names.lookup y.1 = some .cell ∧ ((cellsFrom (s.heap.objs.size + 1) scope.names []).lookup y.1).isSome = true) := fun ⟨n, v⟩ hy => by
    rcases S.par n (List.of_mem_zip hy).1 with q | q
    · exact .inl q
    · exact .inr ⟨q, PySem.W.cellsFrom_some _ _ _ (.inl q)⟩
  refine codeAny_call_function hr.depth (KX _ _ lk) rfl S.co S.gen rfl (PySem.W.codeRec_of KX hcd) (hb _ _ _ _ ?_)
  refine wpAny_newFunctionEnv_cells S.kind hkind fun env he s1 x => ?_
  subst he
  refine ⟨lim.keeps x.toInCall.keep, codeAny_func ?_⟩
  obtain ⟨t, ht, hq⟩ := hbody A outer s H vs Q E hgd (hr.deeper _) hsp
  have I : Inv (cxOf CX P w K mg base N qual scope f cdv A outer s H E) [] (start N vs) H s1 := inv_start S hr.hd e0 hl r x
  refine wpAny_mono (ht.run [] s1 (start N vs) H _ I hq) (fun fl s' hs => ?_) fun e s' hs => hs
  have fin : ∀ {σ' : St} {H' : Hp} {v : V} {u : Value}, Inv (cxOf CX P w K mg base N qual scope f cdv A outer s H E) [] σ' H' s' → RelV v u → Q v H' → CE outer P w H s Q u s' :=
    fun {σ' H' v u} J rv q => ⟨v, H', J.os, J.bare, J.base, J.hok, rv, q⟩
  cases fl with
  | ret u =>
    obtain ⟨v, σ', H', J, rv, q⟩ := hs
    exact fin J rv q
  | next =>
    obtain ⟨σ', H', J, q⟩ := hs
    exact fin (v := V.non) (u := Value.none) J rfl q
  | brk =>
    obtain ⟨_, _, _, q⟩ := hs
    exact False.elim q
  | cont =>
    obtain ⟨_, _, _, q⟩ := hs
    exact False.elim q
end L2
namespace LamX
open PySem PySem.Spec PyProof.Rows L2
theorem law_callTsG {P : Program} {w : World} {K : PySem.W.Frag} {mg mb : Str → Option Value} {CX : CXT} {k : Nat} {fa a : Addr} {cs : List (Addr × Addr)} {fd : FuncData} {x : Str} {sp : Sp} {s₁ : Shared} {vs : List Value} {ns : List Int}
    (KX : K.In s₁.heap) (hns : s₁.heap.Ns mainGlobals mg) (hb : s₁.heap.Ns builtinsNs mb) (hbb : ∀ x : Str, x ≠ "__name__" → mb x = bootBuiltins x) (hlim : s₁.heap.NoLimit) (hg : s₁.gens = #[])
    (hT : ∀ p ∈ cs, s₁.heap.get? p.2 = some { cls := .none, data := .fields #[] }) (nT : ∀ p ∈ cs, K.lookup p.2 = none) (C : ∀ p ∈ cs, PySem.W.CodeHd s₁.heap p.1 p.2)
    (hbm : ∃ (bm : Addr) (ob : Obj), mg "__builtins__" = some (.ref bm) ∧ bm ≠ builtinsNs ∧ s₁.heap.get? bm = some ob ∧ ob.cls = .type "module" ∧ ob.dict = some builtinsNs ∧ ob.data = .plain)
    (ha : s₁.heap.get? a = some { cls := .type "list", data := .seq vs.toArray }) (hi : IntsAre vs ns) (hl : ns.length ≤ sizeLine) (hr : Room k callerA)
    (F : ∀ base : Heap, K.In base → base.Ns mainGlobals mg → (∀ p ∈ cs, TabB base mg p.1 p.2) → FnG P w K mg base CX k fa fd [x] sp) (hbind : ∀ (s : Shared) (u : Value), BindsTo s fd ⟨[u], []⟩ [(x, u)])
    (hsp : ∀ H : Hp, (∀ p ∈ cs, H p.2 = some (.tbl #[])) → SqL K H a (ns.map V.int) → sp [.ref a] H (fun v _ => v = .bl true) fun _ _ _ => False)
    (hCX : ∀ H e s', CX [] H s₁ (fun _ _ _ => False) e s' → False) :
    codeAny (model P w) callerA (.call (.ref fa) ⟨[.ref a], []⟩) (fun r s' => r = .ok (.ret (.bool true)) ∧ OldK s₁.heap s'.heap ∧ s'.os = s₁.os ∧ AllBare s'.gens) s₁ := by
  have rv := vals_ints hi
  have lenV := hi.length
  have isT : ∀ b : Addr, b ∈ cs.map (·.2) → s₁.heap.get? b = some { cls := .none, data := .fields #[] } := fun b hb => by
    obtain ⟨p, hp, e⟩ := List.mem_map.mp hb
    rw [← e]
    exact hT p hp
  have aT : a ∉ cs.map (·.2) := fun z => by
    have q := isT a z
    rw [ha] at q
    have z' : Data.seq vs.toArray _ = Data.fields #[] := congrArg Obj.data (Option.some.inj q)
    cases z'
  have memT : ∀ p ∈ cs, p.2 ∈ cs.map (·.2) := fun p hp => List.mem_map.mpr ⟨p, hp, rfl⟩
  -- from an abstract heap in which nothing but the script and the tables may be tracked
  have core : ∀ H : Hp, (∀ p ∈ cs, H p.2 = some (.tbl #[])) → (∀ b, H b = none ∨ b ∈ cs.map (·.2) ∨ ∃ o xs, H b = some (.frz o (.lst xs))) → SqL K H a (ns.map V.int) → HOk P w H s₁.heap → (∀ b, H b ≠ none → b = a ∨ b ∈ cs.map (·.2)) → (H a ≠ none → K.lookup a = none) →
      codeAny (model P w) callerA (.call (.ref fa) ⟨[.ref a], []⟩) (fun r s' => r = .ok (.ret (.bool true)) ∧ OldK s₁.heap s'.heap ∧ s'.os = s₁.os ∧ AllBare s'.gens) s₁ := by
    intro H hH hO hS hok hA hK
    have base_of : ∀ {b : Addr} {o : Obj}, s₁.heap.get? b = some o → H b = none → (hidT s₁.heap H).get? b = some o := fun e n => hidT_get e n
    have noD : ∀ {b : Addr} {o : Obj}, s₁.heap.get? b = some o → (∀ vs n, o.data ≠ .seq vs n) → o.data ≠ .fields #[] → H b = none := fun {b o} e h1 h2 => by
      cases q : H b with
      | none => rfl
      | some u =>
        rcases hA b (by rw [q]; simp) with e' | e'
        · rw [e', ha] at e
          cases e
          exact (h1 _ _ rfl).elim
        · rw [isT b e'] at e
          cases e
          exact (h2 rfl).elim
    have noA : ∀ {b : Addr} {o : Obj} {es : Array DictEntry} {ep : Nat}, s₁.heap.get? b = some o → o.data = .dict es ep → H b = none := fun {b o es ep} e d => by
      refine noD e (fun vs n z => ?_) fun z => ?_
      · rw [d] at z
        cases z
      · rw [d] at z
        cases z
    have nsK : ∀ {b : Addr} {m : Str → Option Value}, s₁.heap.Ns b m → (hidT s₁.heap H).Ns b m := fun {b m} ⟨o, es, ep, e, d, r⟩ => ⟨o, es, ep, base_of e (noA e d), d, r⟩
    have hKb : K.In (hidT s₁.heap H) := fun b o e => base_of (KX b o e) (by
      cases q : H b with
      | none => rfl
      | some u =>
        rcases hA b (by rw [q]; simp) with e' | e'
        · rw [e'] at e q
          rw [hK (by rw [q]; simp)] at e
          cases e
        · obtain ⟨p, hp, ep⟩ := List.mem_map.mp e'
          rw [← ep, nT p hp] at e
          cases e)
    have hM : L2.Mod K mg (hidT s₁.heap H) := ⟨hKb, nsK hns, ⟨mb, nsK hb, hbb⟩, let ⟨mc, h1, h2⟩ := hlim; ⟨mc, nsK h1, h2⟩⟩
    have TB : ∀ p ∈ cs, TabB (hidT s₁.heap H) mg p.1 p.2 := fun p hp => by
      have hTp := hT p hp
      refine ⟨?_, ?_, fun z => ?_⟩
      · obtain ⟨o, us, file, tf, flags, tg, inF, text, tt, e1, r1, r2, r3, r4, r5, r6, r7, r8, hne⟩ := C p hp
        refine ⟨o, us, file, tf, flags, tg, inF, text, tt, base_of e1 (noD e1 (fun vs n z => ?_) fun z => ?_), r1, r2, r3, r4, r5, r6, r7, r8, hne⟩
        · rw [r2] at z
          cases z
        · rw [r2] at z
          cases z
          simp at r3
      · obtain ⟨bm, ob, b1, b2, b3, b4, b5, b6⟩ := hbm
        have nG : bm ≠ mainGlobals := fun q => by
          obtain ⟨o, es, ep, e, hd, _⟩ := hns
          rw [q, e] at b3
          cases b3
          rw [hd] at b6
          cases b6
        have nP : bm ≠ p.2 := fun q => by
          rw [q, hTp] at b3
          cases b3
          cases b6
        refine ⟨bm, ob, b1, b2, nG, nP, base_of b3 (noD b3 (fun vs n z => ?_) fun z => ?_), b4, b5, b6⟩
        · rw [b6] at z
          cases z
        · rw [b6] at z
          cases z
      · obtain ⟨o, es, ep, e, hd, _⟩ := hns
        rw [z, hTp] at e
        cases e
        cases hd
    have e0 : Env0 P w K mg (hidT s₁.heap H) callerA [] s₁ H := ⟨rfl, hM, fun b o e => of_hidT e, Nat.le_of_eq (hidT_size _ _), trivial, fun b hb => absurd (show b ∈ ([] : List Addr) from hb) (by simp), hok, .of_eq hg⟩
    refine codeAny_mono ((F _ hKb (nsK hns) TB).run callerA [] s₁ H ⟨[.ref a], []⟩ [.ref a] [.ref a] _ _ rfl hr e0 (hbind s₁ (.ref a)) (.cons rfl .nil) (hsp H hH hS)) fun r s' h => ?_
    cases r with
    | error e => exact (hCX H e s' h).elim
    | ok fl =>
      cases fl with
      | next => exact False.elim h
      | brk => exact False.elim h
      | cont => exact False.elim h
      | ret u =>
        obtain ⟨v, H', os, bare, un, hok', r', q⟩ := h
        have q' : v = .bl true := q
        subst q'
        obtain rfl : u = Value.bool true := r'
        have key : ∀ b o, b ∉ cs.map (·.2) → s₁.heap.get? b = some o → s'.heap.get? b = some o := fun b o nb e => by
          cases q : H b with
          | none => exact un.keep b o e q (by intro z; exact absurd (show b ∈ ([] : List Addr) from z) (by simp)) (by simp)
          | some u =>
            rcases hO b with z | z | ⟨ob, xs, z⟩
            · rw [q] at z; cases z
            · exact absurd z nb
            · have z2 := un.frzs b ob _ z
              obtain ⟨e1, _⟩ := hok b _ z
              obtain ⟨e2, _⟩ := hok' b _ z2
              rw [e] at e1; cases e1
              exact e2
        have grown : ∀ p ∈ cs, ∃ more : Array Value, s'.heap.get? p.2 = some { cls := .none, data := .fields more } := fun p hp => by
          obtain ⟨more, z⟩ := un.tbls p.2 #[] (hH p hp)
          exact ⟨_, hok' p.2 _ z⟩
        refine ⟨rfl, ⟨fun b o e => ?_, fun b o e => ?_⟩, os, bare⟩
        · by_cases hb : b ∈ cs.map (·.2)
          · obtain ⟨p, hp, ep⟩ := List.mem_map.mp hb
            obtain ⟨more, hm⟩ := grown p hp
            rw [← ep] at e ⊢
            rw [hT p hp] at e
            cases e
            exact .inr (.inl ⟨((C p hp).tab (hT p hp)).isCodeTable, rfl, #[], more, rfl, by rw [Array.empty_append]; exact hm⟩)
          · exact .inl (key b o hb e)
        · by_cases hb : b ∈ cs.map (·.2)
          · obtain ⟨p, hp, ep⟩ := List.mem_map.mp hb
            obtain ⟨more, hm⟩ := grown p hp
            rw [← ep]
            exact ⟨_, hm⟩
          · exact ⟨o, key b o hb e⟩
  cases hk : K.lookup a with
  | some o =>
    have e := KX a o hk
    rw [ha] at e
    cases e
    refine core (fun b => if b ∈ cs.map (·.2) then some (.tbl #[]) else none) (fun p hp => if_pos (memT p hp)) (fun b => ?_) (.inr ⟨_, vs.toArray, _, hk, rfl, rfl, rfl, by rw [List.size_toArray, lenV]; exact hl, by simpa using rv⟩) (fun b u z => ?_) (fun b z => ?_) fun z => absurd (show (if a ∈ cs.map (·.2) then some (HO.tbl #[]) else none) = none from if_neg aT) z
    · by_cases hb : b ∈ cs.map (·.2)
      · exact .inr (.inl hb)
      · exact .inl (if_neg hb)
    · by_cases hb : b ∈ cs.map (·.2)
      · have z' := (if_pos hb).symm.trans z
        cases z'
        exact isT b hb
      · have z' := (if_neg hb).symm.trans z
        cases z'
    · by_cases hb : b ∈ cs.map (·.2)
      · exact .inr hb
      · exact absurd (if_neg hb) z
  | none =>
    refine core (fun b => if b = a then some (.frz { cls := .type "list", data := .seq vs.toArray } (.lst (ns.map V.int))) else if b ∈ cs.map (·.2) then some (.tbl #[]) else none) (fun p hp => (if_neg (show ¬ p.2 = a from fun z => aT (by rw [← z]; exact memT p hp))).trans (if_pos (memT p hp))) (fun b => ?_)
      (.inl (.inr ⟨{ cls := .type "list", data := .seq vs.toArray }, if_pos rfl⟩)) (fun b u z => ?_) (fun b z => ?_) fun _ => hk
    · by_cases hb : b = a
      · exact .inr (.inr ⟨_, _, if_pos hb⟩)
      · by_cases hb2 : b ∈ cs.map (·.2)
        · exact .inr (.inl hb2)
        · exact .inl ((if_neg hb).trans (if_neg hb2))
    · by_cases hb : b = a
      · have z' := (if_pos hb).symm.trans z
        cases z'
        rw [hb]
        exact ⟨ha, by rw [List.length_map]; exact hl, vs, _, rv, ha⟩
      · have z1 := (if_neg hb).symm.trans z
        by_cases hb2 : b ∈ cs.map (·.2)
        · have z' := (if_pos hb2).symm.trans z1
          cases z'
          exact isT b hb2
        · have z' := (if_neg hb2).symm.trans z1
          cases z'
    · by_cases hb : b = a
      · exact .inl hb
      · by_cases hb2 : b ∈ cs.map (·.2)
        · exact .inr hb2
        · exact absurd ((if_neg hb).trans (if_neg hb2)) z
def LawAtSG (l : PySem.W.OpenLaw) (w : World) (K : PySem.W.Frag) (CX : CXT) (k n : Nat) (x : Str) (mg : Str → Option Value) (fa : Addr) (h : Heap) : Prop :=
  ∃ (fd : FuncData) (cs : List (Addr × Addr)) (sp : Sp), (∀ p ∈ cs, h.get? p.2 = some { cls := .none, data := .fields #[] }) ∧ (∀ p ∈ cs, K.lookup p.2 = none) ∧ (∀ p ∈ cs, PySem.W.CodeHd h p.1 p.2) ∧ (∀ (s : Shared) (u : Value), BindsTo s fd ⟨[u], []⟩ [(x, u)]) ∧
    (∀ (H : Hp) (a : Addr) (ns : List Int), ns.length ≤ n → (∀ z ∈ ns, Builtin.Int.intBits z ≤ 1048576) → (∀ p ∈ cs, H p.2 = some (.tbl #[])) → SqL K H a (ns.map V.int) → sp [.ref a] H (fun v _ => v = .bl true) fun _ _ _ => False) ∧
    ∀ base : Heap, K.In base → base.Ns mainGlobals mg → (∀ p ∈ cs, TabB base mg p.1 p.2) → FnG l.prog w K mg base CX k fa fd [x] sp
theorem walk_ofTsEG {l : PySem.W.OpenLaw} {n k : Nat} {q : Program} {loose : List Str} {XP : (Str → Option Value) → Heap → Prop} {YP : World → Heap → Prop} {d : DefRec} {CX : World → CXT} {x : Str}
    (hn : l.most = some n) (hn2 : n ≤ sizeLine) (hdf : d.params.defaults = []) (hr : Room k callerA)
    (F : ∀ (w : World) (mg : Str → Option Value) (fa : Addr) (h : Heap), YP w h → h.Ns mainGlobals mg → mg d.name = some (.ref fa) → ∃ K : PySem.W.Frag, K.In h ∧ LawAtSG l w K (CX w) k n x mg fa h)
    (hCX : ∀ (w : World) (H : Hp) (s : Shared) (e : Value) (s' : Shared), CX w [] H s (fun _ _ _ => False) e s' → False) :
    PySem.W.WalkO q loose XP YP l.row.toRowW d [] (fun f vs => PySem.call f vs) := by
  refine Att.attach_callB hn hdf fun w s₀ s₁ mg mb fa o pm cd doc a vs ns G Y ho hd hcd hmg hobj hints hlen hbits hg => ?_
  obtain ⟨K, KX, fd, cs, sp, hT, nT, C, hb, hsp, hF⟩ := F w mg fa _ Y G.T.g hmg
  exact law_callTsG KX G.T.g G.T.b G.T.builtins G.T.nolimit hg hT nT C G.T.bmain hobj hints (Nat.le_trans hlen hn2) hr hF hb (fun H hH hS => hsp H a ns hlen hbits hH hS) fun H e s' => hCX w H s₁ e s'
end LamX
namespace DL
open PySem PySem.Spec PyProof.Rows L2
section
variable {H : Hp}
theorem d_fnG {P : Program} {w : World} {K : PySem.W.Frag} {mg : Str → Option Value} {base : Heap} {x qual : Str} {params : Arguments} {body : List Stmt} {scope : Scope} {f : Addr} {fd : FuncData} {N ps : List Str} {k n j : Nat} {b : Sm} (F : FunD K x qual params body scope [] [] f fd) (S : FnScope N ps scope) (hN : N.length = n) (hj : ps.length = j)
    (hb : ∀ (cdv : Value) (A : Around) (outer : List PySem.Env) (s : Shared) (H : Hp) (E : XK), A.guards = some [] → Room k (A.deeper (envOfC qual scope s.heap.objs.size f cdv)) → Takes (cxOf (L2.CX P w) P w K mg base N qual scope f cdv A outer s H E) (fun cls d _ H => E cls d H) →
      PassesOwn (model P w) (A.deeper (envOfC qual scope s.heap.objs.size f cdv)) (envOfC qual scope s.heap.objs.size f cdv) (cxOf (L2.CX P w) P w K mg base N qual scope f cdv A outer s H E).xe →
      PSs (cxOf (L2.CX P w) P w K mg base N qual scope f cdv A outer s H E) body (tS ⟨K, w⟩ (fun cls d _ H => E cls d H) b)) : FnG P w K mg base (L2.CX P w) (k + 1) f fd ps (spD ⟨K, w⟩ j (runF n b)) := by
  obtain ⟨oc, od, dV, kV, doc, pm, an, cdv, ct, osl, rfl, lk, hcd, _, _⟩ := F.ex
  exact fn_ofG lk hcd S (fun vs H Q E h => by obtain ⟨_, _, _, hl, _⟩ := h; exact hl.trans hj.symm) fun A outer s H vs Q E hg hr h =>
    ⟨_, hb cdv A outer s H E hg hr (takes_of rfl rfl rfl rfl) (passes_of rfl), fn_start hN h⟩
end
theorem walk_TG {l : PySem.W.OpenLaw} {n k : Nat} {q : Program} {loose : List Str} {XP : (Str → Option Value) → Heap → Prop} {YP : World → Heap → Prop} {d : DefRec} {x : Str} {F : Fn} {tl : List (Str × Str)}
    (hn : l.most = some n) (hn2 : n ≤ sizeLine) (hdf : d.params.defaults = []) (hr : Room k callerA)
    (hF : ∀ (w : World) (mg : Str → Option Value) (fa : Addr) (h : Heap), YP w h → h.Ns mainGlobals mg → mg d.name = some (.ref fa) → ∃ (K : PySem.W.Frag) (fd : FuncData), K.In h ∧ (tl.map (·.1)).all (lamB K) = true ∧ ((tl.map (·.1)).map (tabA K)).Nodup ∧ (∀ x ∈ tl.map (·.1), h.get? (tabA K x) = some tobj) ∧
      (∀ (s : Shared) (u : Value), BindsTo s fd ⟨[u], []⟩ [(x, u)]) ∧ ∀ base : Heap, K.In base → base.Ns mainGlobals mg → (∀ y ∈ tl.map (·.1), LamX.TabB base mg (codeA K y) (tabA K y)) → FnG l.prog w K mg base (L2.CX l.prog w) k fa fd [x] (spD ⟨K, w⟩ 1 F))
    (hP : ∀ ns : List Int, ns.length ≤ n → ∀ w m, Begin tl ns w m → ∃ m', F [w] m = .ok (.d (.bool true)) m') : PySem.W.WalkO q loose XP YP l.row.toRowW d [] (fun f vs => PySem.call f vs) := by
  refine LamX.walk_ofTsEG (CX := fun w => L2.CX l.prog w) (x := x) hn hn2 hdf hr (fun w mg fa h Y G hmg => ?_) fun w H s e s' hh => ?_
  · obtain ⟨K, fd, KX, h1, h2, h3, h4, h5⟩ := hF w mg fa h Y G hmg
    have hl := fun x hx => List.all_eq_true.mp h1 x hx
    have cb : ∀ y ∈ tl.map (·.1), PySem.W.codeHdIn K (codeA K y) (tabA K y) = true ∧ K.lookup (tabA K y) = none := fun y hy => by
      have := hl y hy
      unfold lamB at this
      simp only [Bool.and_eq_true, Option.isNone_iff_eq_none] at this
      exact ⟨this.2.1, this.2.2⟩
    refine ⟨K, KX, fd, (tl.map (·.1)).map fun y => (codeA K y, tabA K y), spD ⟨K, w⟩ 1 F, fun p hp => ?_, fun p hp => ?_, fun p hp => ?_, h4, fun H a ns hlen _ hH hS => ?_, fun base hb hg hT => h5 base hb hg fun y hy => hT _ (List.mem_map.mpr ⟨y, hy, rfl⟩)⟩
    · obtain ⟨y, hy, e⟩ := List.mem_map.mp hp
      subst e
      exact h3 y hy
    · obtain ⟨y, hy, e⟩ := List.mem_map.mp hp
      subst e
      exact (cb y hy).2
    · obtain ⟨y, hy, e⟩ := List.mem_map.mp hp
      subst e
      exact PySem.W.codeHd_of_K KX (cb y hy).1
    · exact law_endT hl h2 (fun y hy => hH _ (List.mem_map.mpr ⟨y, hy, rfl⟩)) hS (hP ns hlen)
  · obtain ⟨_, _, _, _, _, _, _, _, _, _, _, _, z⟩ := hh
    exact z.elim
end DL
set_option Elab.async false
set_option linter.all false
set_option maxRecDepth 100000
set_option maxHeartbeats 2000000
namespace DL
open PySem PySem.Spec PyProof.Rows L2
end DL
namespace DL
open PySem PySem.Spec PyProof.Rows L2
end DL
set_option Elab.async false
set_option linter.all false
set_option maxRecDepth 100000
set_option maxHeartbeats 2000000
namespace DL
open PySem PySem.Spec PyProof.Rows L2
end DL
set_option Elab.async false
set_option linter.all false
set_option maxRecDepth 100000
set_option maxHeartbeats 4000000
namespace DL
open PySem PySem.Spec PyProof.Rows L2
open AutoSeq1 (wpAny_loadPart')
def isBO : Op2 := fun a b m => match a, b with
  | .d (.bool a), .d (.bool b) => some (.d (.bool (decide (a = b))), m)
  | _, _ => none
section
variable {X : Cx}
theorem o_isB : OpR X (compareOp .Is) (rO X.KW isBO) := by
  refine OpRimp op_is_bl fun x y H Q ⟨ι, m, a, b, mo, ra, rb, p⟩ => ?_
  unfold isBO at p
  split at p
  · exact ⟨_, _, relW_bl ra, relW_bl rb, post_ok p mo (.d (.bl _))⟩
  · exact p.elim
end
end DL
set_option Elab.async false
set_option linter.all false
set_option maxRecDepth 100000
set_option maxHeartbeats 4000000
namespace DL
open PySem PySem.Spec PyProof.Rows L2
def ZSq (k : Bool) (K : PySem.W.Frag) (H : Hp) (a : Addr) (xs : List V) : Prop := match k with | true => SqT K H a xs | false => SqL K H a xs
def ZIt (k : Bool) (h : Heap) (it a : Addr) (i : Nat) : Prop := match k with | true => h.IsTupleIter it a i | false => h.IsListIter it a i
def ZCt (k : Bool) (h : Heap) (a : Addr) (items : Array Value) : Prop := match k with | true => h.IsTuple a items | false => h.IsList a items
theorem ZIt.live {k : Bool} {h : Heap} {it a : Addr} {i : Nat} (x : ZIt k h it a i) : ∃ o, h.get? it = some o ∧ ∀ v, o.data ≠ .cell v := by
  cases k with
  | true => obtain ⟨o, e, _, d⟩ := x; exact ⟨o, e, fun v q => by rw [d] at q; cases q⟩
  | false => obtain ⟨o, e, _, d⟩ := x; exact ⟨o, e, fun v q => by rw [d] at q; cases q⟩
theorem ZIt.at {k : Bool} {h h' : Heap} {it a : Addr} {i : Nat} (x : ZIt k h it a i) (e : ∀ o, h.get? it = some o → h'.get? it = some o) : ZIt k h' it a i := by
  cases k with
  | true => exact Heap.IsTupleIter.at x e
  | false => exact Heap.IsListIter.at x e
theorem ZCt.lt {k : Bool} {h : Heap} {a : Addr} {items : Array Value} (x : ZCt k h a items) : a < h.objs.size := by
  cases k with
  | true => obtain ⟨_, e, _⟩ := x; exact Heap.lt_size e
  | false => obtain ⟨_, e, _⟩ := x; exact Heap.lt_size e
theorem ZSq.at {k : Bool} {X : Cx} {pins : List (Addr × Obj)} {σ : L2.St} {H : Hp} {s : Shared} {a : Addr} {xs : List V} (I : L2.Inv X pins σ H s) (h : ZSq k X.K H a xs) : ∃ its : List Value, Vals xs its ∧ ZCt k s.heap a its.toArray := by
  cases k with
  | true => obtain ⟨its, rv, p, _⟩ := I.tuple h; exact ⟨its, rv, p⟩
  | false => obtain ⟨its, rv, p, _⟩ := I.list h; exact ⟨its, rv, p.isList⟩
theorem ZSq.inj {k : Bool} {X : Cx} {pins : List (Addr × Obj)} {σ : L2.St} {H : Hp} {s : Shared} {a : Addr} {xs ys : List V} (I : L2.Inv X pins σ H s) (h : ZSq k X.K H a xs) (h' : ZSq k X.K H a ys) : xs = ys := by
  cases k with
  | true => exact I.tuple_inj h h'
  | false => exact I.list_inj h h'
section
variable {K : Kw} {ι0 : List Addr} {H0 : Hp}
/-- what a side is behind: a tuple's items stand, a list's items are those of a cell that is guarded -/
def Side (K : Kw) (ι0 : List Addr) (H0 : Hp) (k : Bool) (a : Addr) (xs : List Wd) (gd : Gd) : Prop :=
  ∀ ι m H, Stp ι0 H0 ι H → MemOk K ι m H → gdOk gd m = true → ∃ vs, ZSq k K H a vs ∧ RelWs K ι H xs vs
theorem Side.get {k : Bool} {a : Addr} {xs : List Wd} {gd : Gd} {ι : List Addr} {m : Mm} {H : Hp} {i : Nat} {y : V} {w : Wd} (S : Side K ι0 H0 k a xs gd) (st : Stp ι0 H0 ι H) (mo : MemOk K ι m H) (hg : gdOk gd m = true) (hy : ∀ l, ZSq k K H a l → l[i]? = some y) (hw : xs[i]? = some w) : RelW K ι H w y := by
  obtain ⟨vs, q, r⟩ := S ι m H st mo hg
  obtain ⟨v, q1, q2⟩ := r.get hw
  have := hy vs q
  rw [q1] at this; cases this
  exact q2
end
end DL
set_option Elab.async false
set_option linter.all false
set_option maxRecDepth 100000
set_option maxHeartbeats 2000000
namespace DL
open PySem PySem.Spec PyProof.Rows L2
end DL
set_option Elab.async false
set_option linter.all false
set_option maxRecDepth 100000
set_option maxHeartbeats 2000000
namespace DL
open PySem PySem.Spec PyProof.Rows L2
end DL
set_option Elab.async false
set_option linter.all false
set_option maxRecDepth 100000
set_option maxHeartbeats 2000000
namespace DL
open PySem PySem.Spec PyProof.Rows L2
end DL
set_option Elab.async false
set_option linter.all false
set_option maxRecDepth 100000
set_option maxHeartbeats 2000000
namespace DL
open PySem PySem.Spec PyProof.Rows L2
/-- a class of the text, read and written plainly -/
def ClK (K : PySem.W.Frag) (c : Str) : Prop := ∀ C, PySem.W.nsIn K mainGlobals c = some (some (.ref C)) → Cls K C
/-- no class of it has the name -/
def NoA (K : PySem.W.Frag) (c f : Str) : Prop := ∀ C, PySem.W.nsIn K mainGlobals c = some (some (.ref C)) → NoAttr K C f
/-- fields by name -/
def fldG (f : Str) : List (Str × Wd) → Option Wd
  | [] => none
  | (g, w) :: r => if f = g then some w else fldG f r
def fldP (f : Str) (x : Wd) : List (Str × Wd) → List (Str × Wd)
  | [] => [(f, x)]
  | (g, w) :: r => if g = f then (g, x) :: r else (g, w) :: fldP f x r
def fldO (cs : List Str) (f : Str) : Op1 := fun w m => match w with
  | .ref n => (match m.cells[n]? with
    | some (.ins c fs) => if c ∈ cs then (fldG f fs).map fun v => (v, m) else none
    | _ => none)
  | _ => none
section
variable {K : Kw} {ι ι' : List Addr} {H H' : Hp} {m : Mm}
theorem fs_get {f : Str} {w : Wd} : ∀ {fs : List (Str × Wd)} {gs : List (Str × V)}, FsOk K ι H fs gs → fldG f fs = some w → ∃ v, gs.lookup f = some v ∧ RelW K ι H w v
  | [], [], _, e => by cases e
  | (g, u) :: r, (g', v) :: r', ⟨h1, h2, h3⟩, e => by
    subst h1
    have e' : (if f = g then some u else fldG f r) = some w := e
    by_cases hf : f = g
    · rw [if_pos hf] at e'
      cases e'
      exact ⟨v, by rw [List.lookup_cons]; simp [hf], h2⟩
    · rw [if_neg hf] at e'
      obtain ⟨v2, q1, q2⟩ := fs_get h3 e'
      refine ⟨v2, ?_, q2⟩
      rw [List.lookup_cons]
      have : (f == g) = false := by simpa using hf
      rw [this]
      exact q1
  | [], _ :: _, h, _ => h.elim
  | _ :: _, [], h, _ => h.elim
theorem fs_none {f : Str} : ∀ {fs : List (Str × Wd)} {gs : List (Str × V)}, FsOk K ι H fs gs → fldG f fs = none → gs.lookup f = none
  | [], [], _, e => rfl
  | (g, u) :: r, (g', v) :: r', ⟨h1, h2, h3⟩, e => by
    subst h1
    have e' : (if f = g then some u else fldG f r) = none := e
    by_cases hf : f = g
    · rw [if_pos hf] at e'; cases e'
    · rw [if_neg hf] at e'
      rw [List.lookup_cons]
      have : (f == g) = false := by simpa using hf
      rw [this]
      exact fs_none h3 e'
  | [], _ :: _, h, _ => h.elim
  | _ :: _, [], h, _ => h.elim
theorem fs_put {f : Str} {w : Wd} {v : V} (r : RelW K ι H w v) : ∀ {fs : List (Str × Wd)} {gs : List (Str × V)}, FsOk K ι H fs gs → FsOk K ι H (fldP f w fs) (putF f v gs)
  | [], [], _ => ⟨rfl, r, trivial⟩
  | (g, u) :: rs, (g', v') :: rs', ⟨h1, h2, h3⟩ => by
    subst h1
    unfold fldP putF
    by_cases hg : g = f
    · subst hg
      simp only [if_true, beq_self_eq_true]
      exact ⟨rfl, r, h3⟩
    · have : (g == f) = false := by simpa using hg
      simp only [hg, this, if_false]
      exact ⟨rfl, h2, fs_put r h3⟩
  | [], _ :: _, h => h.elim
  | _ :: _, [], h => h.elim
theorem fs_len : ∀ {fs : List (Str × Wd)} {gs : List (Str × V)}, FsOk K ι H fs gs → fs.length = gs.length
  | [], [], _ => rfl
  | (_, _) :: _, (_, _) :: _, ⟨_, _, h⟩ => congrArg (· + 1) (fs_len h)
  | [], _ :: _, h => h.elim
  | _ :: _, [], h => h.elim
end
/-- a store into a field -/
def fsetO (cs : List Str) (f : Str) (o v : Wd) (m : Mm) : Option Mm := match o with
  | .ref n => (match m.cells[n]? with
    | some (.ins c fs) => if c ∈ cs ∧ fs.length < 1000 then some (m.put n (.ins c (fldP f v fs)) (v.lt 0)) else none
    | _ => none)
  | _ => none
def sFSet (cs : List Str) (f : Str) (fo fv : Em Wd) : Sm := fun env m => rs (fv env m) env fun v m => rs (fo env m) env fun o m => match fsetO cs f o v m with
  | some m => .go .nx env m
  | none => .stuck
/-- the class of an object -/
def insC (o : Wd) (m : Mm) : Option Str := match o with
  | .ref n => (match m.cells[n]? with
    | some (.ins c _) => some c
    | _ => none)
  | _ => none
def sFAug (cs : List Str) (f : Str) (g : Op2) (fo fv : Em Wd) : Sm := fun env m => rs (fo env m) env fun o m => match insC o m with
  | some c => if c ∈ cs then (match fldO [c] f o m with
    | some (x, m) => rs (fv env m) env fun y m => rs (Rs.of (g x y m)) env fun z m => match fsetO [c] f o z m with
      | some m => .go .nx env m
      | none => .stuck
    | none => .stuck) else .stuck
  | none => .stuck
def fsetsO (cs : List Str) (o : Wd) : List Str → List Wd → Mm → Option Mm
  | [], [], m => some m
  | f :: fs, w :: ws, m => (fsetO cs f o w m).bind fun m => fsetsO cs o fs ws m
  | _, _, _ => none
/-- self.a, self.b = a tuple's items -/
def sFPar (cs : List Str) (i : Nat) (fs : List Str) (fv : Em Wd) : Sm := fun env m => rs (fv env m) env fun v m => match env[i]?, tupOf v with
  | some (some o), some ws => (match fsetsO cs o fs ws m with
    | some m => .go .nx env m
    | none => .stuck)
  | _, _ => .stuck
section
variable {K : Kw} {W : L2.WX} {ι ι' : List Addr} {H H' : Hp} {σ : L2.St} {m : Mm} {X : Cx}
/-- the classes of a list, read at a name that none of them has -/
def ClF (K : PySem.W.Frag) (cs : List Str) (f : Str) : Prop := ∀ c ∈ cs, ClK K c ∧ NoA K c f
theorem fld_ok {cs : List Str} {f : Str} {w v : Wd} {m' : Mm} {x : V} (mo : MemOk K ι m H) (r : RelW K ι H w x) (hc : ClF K cs f) (e : fldO cs f w m = some (v, m')) :
    m' = m ∧ ∃ a C dx gs y c, x = .ref a ∧ H a = some (.ins C dx gs) ∧ Cls K C ∧ NoAttr K C f ∧ gs.lookup f = some y ∧ RelW K ι H v y ∧ c ∈ cs ∧ PySem.W.nsIn K mainGlobals c = some (some (.ref C)) := by
  unfold fldO at e
  split at e
  · rename_i n
    split at e
    · rename_i c fs hcell
      split at e
      · rename_i hcs
        obtain ⟨v', hv, e2⟩ := Option.map_eq_some_iff.mp e
        cases e2
        obtain ⟨a, rfl, ea⟩ := relW_ref r
        obtain ⟨C, dx, gs, h1, h2, h3⟩ := mo.cell _ _ _ ea hcell
        obtain ⟨y, hy, ry⟩ := fs_get h3 hv
        exact ⟨rfl, a, C, dx, gs, y, c, rfl, h2, (hc c hcs).1 C h1, (hc c hcs).2 C h1, hy, ry, hcs, h1⟩
      · cases e
    · cases e
  · cases e
theorem Cell.lt_ins {b : Nat} {c : Str} {fs : List (Str × Wd)} : (Cell.ins c fs).lt b = true ↔ ∀ p ∈ fs, p.2.lt b = true := by
  show Wd.ltAll b (fs.map (·.2)) = true ↔ _
  rw [ltAll_mem]
  exact ⟨fun h p hp => h _ (List.mem_map_of_mem hp), fun h w hw => by
    obtain ⟨p, hp, rfl⟩ := List.mem_map.mp hw
    exact h p hp⟩
theorem fldP_lt {b : Nat} {f : Str} {v : Wd} (hv : v.lt b = true) : ∀ {fs : List (Str × Wd)}, (∀ p ∈ fs, p.2.lt b = true) → ∀ p ∈ fldP f v fs, p.2.lt b = true
  | [], _, p, hp => by
    rw [List.mem_singleton.mp hp]; exact hv
  | (g, w) :: r, h, p, hp => by
    unfold fldP at hp
    split at hp
    · rcases List.mem_cons.mp hp with rfl | hp
      · exact hv
      · exact h p (List.mem_cons_of_mem _ hp)
    · rcases List.mem_cons.mp hp with rfl | hp
      · exact h _ List.mem_cons_self
      · exact fldP_lt hv (fun q hq => h q (List.mem_cons_of_mem _ hq)) p hp
theorem fset_ok {cs : List Str} {f : Str} {o v : Wd} {m' : Mm} {x y : V} (mo : MemOk K ι m H) (ro : RelW K ι H o x) (rv : RelW K ι H v y) (hc : ClF K cs f) (e : fsetO cs f o v m = some m') :
    ∃ a C dx gs c, x = .ref a ∧ H a = some (.ins C dx gs) ∧ Cls K C ∧ NoAttr K C f ∧ gs.length < 1000 ∧ MemOk K ι m' (upd H a (.ins C dx (putF f y gs))) ∧ Stp ι H ι (upd H a (.ins C dx (putF f y gs))) ∧ c ∈ cs ∧ PySem.W.nsIn K mainGlobals c = some (some (.ref C)) := by
  unfold fsetO at e
  split at e
  · rename_i n
    split at e
    · rename_i c fs hcell
      split at e
      · rename_i hcs
        cases e
        obtain ⟨a, rfl, ea⟩ := relW_ref ro
        obtain ⟨C, dx, gs, h1, h2, h3⟩ := mo.cell _ _ _ ea hcell
        have ha : a ∈ ι := List.mem_of_getElem? ea
        have st : Stp ι H ι (upd H a (.ins C dx (putF f y gs))) := stp_set ha
        refine ⟨a, C, dx, gs, c, rfl, h2, (hc c hcs.1).1 C h1, (hc c hcs.1).2 C h1, by rw [← fs_len h3]; exact hcs.2, mo.put ea hcell ⟨C, dx, _, h1, upd_same, fs_put (rv.step mo.apart st) (h3.step mo.apart st)⟩ fun q b hb => ?_, st, hcs.1, h1⟩
        exact Cell.lt_ins.mpr (fldP_lt (lt_mono (Nat.zero_le b) _ q) (Cell.lt_ins.mp hb))
      · cases e
    · cases e
  · cases e
theorem de_fld {cs : List Str} {f : Str} {e : Expr} {pos : Pos} {fa : Em Wd} (hc : ClF X.K cs f) (h : PE X e (tE X.KW W fa)) (hb : attributeBase e f X.env (eval e X.env) = eval e X.env := by rfl) : PE X (.Attribute e f pos) (tE X.KW W (e1 (fldO cs f) fa)) :=
  PEimp (pe_fld h hb) fun σ H Q ⟨ι, env, m, eo, mo, p⟩ => Post.bind eo mo p fun ι1 H1 w x m1 st1 mo1 eo1 r p1 => by
    cases q : fldO cs f w m1 with
    | none => rw [q] at p1; exact p1.elim
    | some z =>
      obtain ⟨v, m2⟩ := z
      rw [q] at p1
      obtain ⟨rfl, a, C, dx, gs, y, _, e1, e2, h1, h2, h3, h4, _⟩ := fld_ok mo1 r hc q
      exact ⟨a, C, dx, gs, y, e1, e2, h1, h2, h3, post_ok p1 mo1 h4⟩
theorem ds_fset {cs : List Str} {f : Str} {o e : Expr} {fo fv : Em Wd} {pos pos' : Pos} (hc : ClF X.K cs f) (ho : PE X o (tE X.KW W fo)) (hv : PE X e (tE X.KW W fv)) (hs : swapsWith e (some (.Attribute o f pos')) pos.line X.env = pure false := by rfl) :
    PS X (.Assign [.Attribute o f pos'] e pos) (tS X.KW W (sFSet cs f fo fv)) :=
  PSimp (ps_fld ho hv hs) fun D σ H ⟨ι, env, m, eo, mo, p⟩ => PostS.bind eo mo p fun ι1 H1 v y m1 st1 mo1 eo1 rv p1 => PostS.bind eo1 mo1 p1 fun ι2 H2 o' x m2 st2 mo2 eo2 ro p2 => by
    cases q : fsetO cs f o' v m2 with
    | none => rw [q] at p2; exact p2.elim
    | some m3 =>
      rw [q] at p2
      obtain ⟨a, C, dx, gs, _, e1, e2, h1, h2, h3, h4, h5, _⟩ := fset_ok mo2 ro (rv.step mo1.apart st2) hc q
      exact ⟨a, C, dx, gs, e1, e2, h1, h2, h3, p2 ι2 _ σ h5 h4 (eo2.step mo2.apart h5)⟩
theorem ds_faug {cs : List Str} {f : Str} {o e : Expr} {op : Operator} {g : Op2} {fo fv : Em Wd} {pos tpos : Pos} (hc : ClF X.K cs f) (hp : PIp X op (rO X.KW g)) (ho : PE X o (tE X.KW W fo)) (hv : PE X e (tE X.KW W fv)) :
    PS X (.AugAssign (.Attribute o f tpos) op e pos) (tS X.KW W (sFAug cs f g fo fv)) :=
  PSimp (ps_fldaug (rd := rO X.KW g) ho hv hp) fun D σ H ⟨ι, env, m, eo, mo, p⟩ => PostS.bind eo mo p fun ι1 H1 o' x m1 st1 mo1 eo1 ro p1 => by
    cases q0 : insC o' m1 with
    | none => rw [q0] at p1; exact p1.elim
    | some c0 =>
      rw [q0] at p1
      simp only [] at p1
      by_cases hcs : c0 ∈ cs
      · rw [if_pos hcs] at p1
        have hc0 : ClF X.K [c0] f := fun c hcm => by rw [List.mem_singleton.mp hcm]; exact hc c0 hcs
        cases q : fldO [c0] f o' m1 with
        | none => rw [q] at p1; exact p1.elim
        | some z =>
          obtain ⟨v0, m1'⟩ := z
          rw [q] at p1
          obtain ⟨rfl, a, C, dx, gs, y, c1, e1, e2, h1, h2, h3, h4, h5, h6⟩ := fld_ok mo1 ro hc0 q
          refine ⟨a, C, dx, gs, y, e1, e2, h1, h2, h3, PostS.bind eo1 mo1 p1 fun ι2 H2 v yv m2 st2 mo2 eo2 rv p2 => ⟨ι2, m2, v0, v, mo2, h4.step mo1.apart st2, rv, ?_⟩⟩
          cases q2 : g v0 v m2 with
          | none => rw [q2] at p2; exact p2.elim
          | some z =>
            obtain ⟨z, m3⟩ := z
            rw [q2] at p2
            intro ι3 H3 zv st3 mo3 rz
            simp only [Rs.of_some, rs_ok] at p2
            cases q3 : fsetO [c0] f o' z m3 with
            | none => rw [q3] at p2; exact p2.elim
            | some m4 =>
              rw [q3] at p2
              obtain ⟨a', C', dx', gs', c2, e1', e2', h1', h2', h3', h4', h5', h6', h7'⟩ := fset_ok mo3 ((ro.step mo1.apart st2).step mo2.apart st3) rz hc0 q3
              have ea : a' = a := by rw [e1] at e1'; cases e1'; rfl
              subst ea
              have eC : C' = C := by
                rw [List.mem_singleton.mp h5] at h6
                rw [List.mem_singleton.mp h6', h6] at h7'
                cases h7'; rfl
              subst eC
              exact ⟨dx', gs', e2', h3', (p2.step st3) ι3 _ σ h5' h4' ((eo2.step mo2.apart st3).step mo3.apart h5')⟩
      · rw [if_neg hcs] at p1; exact p1.elim
def setsV (K : PySem.W.Frag) (o : V) : List Str → List V → Hp → (Hp → Prop) → Prop
  | [], [], H, R => R H
  | f :: fs, v :: vs, H, R => ∃ a C dx gs, o = .ref a ∧ H a = some (.ins C dx gs) ∧ Cls K C ∧ NoAttr K C f ∧ gs.length < 1000 ∧ setsV K o fs vs (upd H a (.ins C dx (putF f v gs))) R
  | _, _, _, _ => False
inductive SelfT (x : Str) : List Expr → List Str → Prop where
  | nil : SelfT x [] []
  | cons {p pos : Pos} {f : Str} {es : List Expr} {fs : List Str} : SelfT x es fs → SelfT x (.Attribute (.Name x p) f pos :: es) (f :: fs)
def gSelf (K : PySem.W.Frag) (i : Nat) (fs : List Str) : TGs := fun vs σ H Q => ∃ o, σ[i]? = some (some o) ∧ setsV K o fs vs H (Q σ)
theorem pgs_self {x : Str} {i : Nat} (hv : ∀ p, PE X (.Name x p) (tVar i)) : ∀ {es : List Expr} {fs : List Str}, SelfT x es fs → PGs X es (gSelf X.K i fs)
  | _, _, .nil => by
    refine ⟨fun pins s σ H vs us Q I r h => ?_⟩
    obtain ⟨o, ho, h⟩ := h
    cases r with
    | nil => exact assignInOrder_nil ⟨σ, H, I, h⟩
    | cons _ _ => exact h.elim
  | _, _, .cons (p := p) (pos := pos) (f := f) (es := es) (fs := fs) hs => by
    refine ⟨fun pins s σ H vs us Q I r h => ?_⟩
    obtain ⟨o, ho, h⟩ := h
    cases r with
    | nil => exact h.elim
    | cons r rr =>
      rename_i v u vs us
      obtain ⟨a, C, dx, gs, e1, e2, h1, h2, h3, h4⟩ := h
      subst e1
      have e : (assignEach (.Attribute (.Name x p) f pos :: es) X.env).map (·.2) = assign (.Attribute (.Name x p) f pos) X.env :: (assignEach es X.env).map (·.2) := rfl
      rw [e]
      refine assignInOrder_cons ?_
      show wpAny _ _ (do
        let ov ← holding [u] (eval (.Name x p) X.env)
        standAt pos.atName
        holding [u, ov] (setAttr ov f u)
        release [u, ov] []) _ _ _
      refine wpAny_bind (wpAny_holding (thn ((hv p).run pins s σ H (fun v H' => v = .ref a ∧ H' = H) I ⟨_, ho, rfl, rfl⟩) fun ov s1 ⟨y, H1, I1, r1, e1, e2'⟩ => ?_))
      subst e1 e2'
      obtain rfl : ov = Value.ref a := r1
      refine wpAny_bind (wpAny_standAt (wpAny_bind (wpAny_holding (setattr_ok I1 e2 h1 h2 h3 r fun s3 I3 => ?_))))
      exact wpAny_release ((pgs_self hv hs).run pins s3 σ _ vs us Q I3 rr ⟨_, ho, h4⟩)
end
section
variable {K : Kw} {W : L2.WX} {ι ι' : List Addr} {H H' : Hp} {σ : L2.St} {m : Mm} {X : Cx}
theorem fsets_ok {cs : List Str} : ∀ {fs : List Str} {ws : List Wd} {vs : List V} {ι : List Addr} {H : Hp} {m m' : Mm} {o : Wd} {x : V} {R : Hp → Prop}, MemOk K ι m H → RelW K ι H o x → RelWs K ι H ws vs → (∀ f ∈ fs, ClF K cs f) → fsetsO cs o fs ws m = some m' → (∀ H', MemOk K ι m' H' → Stp ι H ι H' → R H') → setsV K x fs vs H R
  | [], ws, vs, ι, H, m, m', o, x, R, mo, ro, rs, hc, e, h => by
    cases rs with
    | nil =>
      have e' : some m = some m' := e
      cases e'
      exact h H mo .refl
    | cons _ _ => cases e
  | f :: fs, ws, vs, ι, H, m, m', o, x, R, mo, ro, rs, hc, e, h => by
    cases rs with
    | nil => cases e
    | cons r rr =>
      obtain ⟨m1, e1, e2⟩ := Option.bind_eq_some_iff.mp (show ((fsetO cs f o _ m).bind fun m => fsetsO cs o fs _ m) = some m' from e)
      obtain ⟨a, C, dx, gs, c, q1, q2, h1, h2, h3, mo1, st1, _⟩ := fset_ok mo ro r (hc f List.mem_cons_self) e1
      exact ⟨a, C, dx, gs, q1, q2, h1, h2, h3, fsets_ok mo1 (ro.step mo.apart st1) (rr.step mo.apart st1) (fun g hg => hc g (List.mem_cons_of_mem _ hg)) e2 fun H' mo' st' => h H' mo' (st1.trans st')⟩
theorem ds_fpar {cs : List Str} {i : Nat} {x : Str} {es : List Expr} {fs : List Str} {e : Expr} {k : Nat} {tpos pos : Pos} {fv : Em Wd} (hcalm : X.calm = true) (hc : ∀ f ∈ fs, ClF X.K cs f) (hs : SelfT x es fs) (hx : ∀ p, PE X (.Name x p) (tVar i)) (hv : PE X e (tE X.KW W fv))
    (hn : (assignEach es X.env).length = fs.length := by rfl) (hst : (assignEach es X.env).findIdx? (·.1) = none := by rfl)
    (hs1 : swapsWithSole [.Tuple es k tpos] e pos.line X.env = pure false := by rfl) (hw : swappedStores [.Tuple es k tpos] e X.env = pure none := by rfl)
    (h1 : (assignEach [.Tuple es k tpos] X.env).map (·.2) = [assign (.Tuple es k tpos) X.env] := by rfl) : PS X (.Assign [.Tuple es k tpos] e pos) (tS X.KW W (sFPar cs i fs fv)) :=
  PSimp (ps_asg hv (pg_tup hcalm (pgs_self hx hs) hn hst) hs1 hw h1) fun D σ H ⟨ι, env, m, eo, mo, p⟩ => PostS.bind eo mo p fun ι1 H1 v y m1 st1 mo1 eo1 rv p1 => by
    cases q1 : env[i]? with
    | none => rw [q1] at p1; exact p1.elim
    | some o =>
      cases o with
      | none => rw [q1] at p1; exact p1.elim
      | some o =>
        cases q2 : tupOf v with
        | none => rw [q1, q2] at p1; exact p1.elim
        | some ws =>
          rw [q1, q2] at p1
          simp only [] at p1
          cases q3 : fsetsO cs o fs ws m1 with
          | none => rw [q3] at p1; exact p1.elim
          | some m2 =>
            rw [q3] at p1
            obtain ⟨a, vs, rfl, hq, rs⟩ := tupOf_ok q2 rv
            obtain ⟨x, hx2, rx⟩ := eo1.2 i o q1
            have hl : ws.length = fs.length := by
              have : ∀ {fs : List Str} {ws : List Wd} {m m' : Mm}, fsetsO cs o fs ws m = some m' → ws.length = fs.length := by
                intro fs
                induction fs with
                | nil =>
                  intro ws m m' e
                  cases ws with
                  | nil => rfl
                  | cons _ _ => cases e
                | cons f fs ih =>
                  intro ws m m' e
                  cases ws with
                  | nil => cases e
                  | cons w ws =>
                    obtain ⟨m1, e1, e2⟩ := Option.bind_eq_some_iff.mp (show ((fsetO cs f o w m).bind fun m => fsetsO cs o fs ws m) = some m' from e)
                    exact congrArg (· + 1) (ih e2)
              exact this q3
            exact ⟨a, vs, rfl, hq, by rw [← rs.length]; exact hl, x, hx2, fsets_ok mo1 rx rs hc q3 fun H' mo' st' => p1 ι1 H' σ st' mo' (eo1.step mo1.apart st')⟩
end
section
variable {X : Cx} {W : L2.WX} {CX : CXT} {k : Nat} {C f : Addr} {fd : FuncData} {ps : List Str} {sp : Sp} {E : L2.St → XK} {x m : Str} {p pos apos : Pos} {e o : Expr} {es : List Expr} {ta : TE} {t : TA}
def tMakeS (C : Addr) (sp : Sp) (E : L2.St → XK) (t : TA) : TE := fun σ H Q => t σ H fun vs H1 => ∀ x dx, H1 x = none → H1 dx = none → dx ≠ x →
  sp (.ref x :: vs) (upd (upd H1 dx (.own x)) x (.ins C dx [])) (fun v H2 => v = .non ∧ Q (.ref x) H2) (E σ)
theorem run_makeS {pins : List (Addr × Obj)} {σ : L2.St} {H : Hp} {s : Shared} {Q : VK} {us : List Value} {vs : List V} {E : XK} (M : Mk X.K C f) (F : FnOk X.prog X.w X.K X.mg X.base CX k f fd ps sp) (hr : Room (k + 1) X.A) (hb : Binds X.K fd ps [])
    (hx : PassesAt CX X σ E) (I : Inv X pins σ H s) (r : Vals vs us)
    (h : ∀ x dx, H x = none → H dx = none → dx ≠ x → sp (.ref x :: vs) (upd (upd H dx (.own x)) x (.ins C dx [])) (fun v H2 => v = .non ∧ Q (.ref x) H2) E) :
    wpAny (model X.prog X.w) X.A (call (.ref C) us) (EP X pins σ Q) X.xe s := by
  have hq := h (s.heap.objs.size + 1) s.heap.objs.size (I.hok.fresh (Nat.le_succ _)) (I.hok.fresh (Nat.le_refl _)) (Nat.ne_of_lt (Nat.lt_succ_self _))
  have I2 := Inv.made (C := C) I
  have r2 : Vals (V.ref (s.heap.objs.size + 1) :: vs) (Value.ref (s.heap.objs.size + 1) :: us) := .cons rfl r
  have hl : (Value.ref (s.heap.objs.size + 1) :: us ++ []).length = ps.length := by
    have e := r2.length
    rw [F.len _ _ _ _ hq] at e
    rw [List.append_nil]
    exact e.symm
  refine wpAny_call (make_map (f := f) I.kIn M.makes M.init (beq_iff_eq.mp M.fn) (codeAny_mono (F.run _ X.stack _ _ ⟨Value.ref (s.heap.objs.size + 1) :: us, []⟩ (Value.ref (s.heap.objs.size + 1) :: us) _ _ E (hr.make C us [])
    (I2.env0.make C us []) (by have := hb _ (Value.ref (s.heap.objs.size + 1) :: us) I2.kIn hl; rwa [List.append_nil] at this) r2 hq) fun r s' hq' => ?_))
  cases r with
  | error e => exact hx _ _ _ e s' I2 hq'
  | ok fl =>
    cases fl with
    | ret u =>
      obtain ⟨v, H', I3, rv, ev, q3⟩ := I2.after hq'
      subst ev
      exact ⟨rv, ⟨V.ref (s.heap.objs.size + 1), H', I3, rfl, q3⟩⟩
    | next => exact False.elim hq'
    | brk => exact False.elim hq'
    | cont => exact False.elim hq'
theorem pe_makeS (M : Mk X.K C f) (F : FnOk X.prog X.w X.K X.mg X.base CX k f fd ps sp) (hr : Room (k + 1) X.A) (hg : Gl X x) (hm : X.mg x = some (.ref C)) (hb : Binds X.K fd ps []) (hx : ∀ σ, PassesAt CX X σ (E σ))
    (ha : PA X (e :: es) t) (hdb : (x == ("__debug__" : Str)) = false := by decide) (he : starEach (e :: es) X.env = (false, eval e X.env) :: starEach es X.env := by rfl) (hpl : (backTo pos (starEach es X.env)).any (·.1) = false := by rfl) :
    PE X (.Call (.Name x p) (e :: es) [] pos) (tMakeS C sp E t) := by
  refine ⟨fun pins s σ H Q I h => ?_⟩
  refine wpAny_Call_Name_kw (ld_glob I hg hm ?_ hdb)
  refine PySem.W.callWith_K (h₀ := X.base) I.ok.mod.kin M.kp (thn (ha.run pos pins s σ H _ I h) fun us s1 ⟨vs, H1, I1, r, q⟩ => ⟨I1.kIn, ?_⟩) he hpl
  exact run_makeS M F hr hb (hx σ) I1 r q
end
end DL
set_option Elab.async false
set_option linter.all false
set_option maxRecDepth 100000
set_option maxHeartbeats 2000000
namespace DL
open PySem PySem.Spec PyProof.Rows L2
/-- a method of the class at C does what sp says -/
def MtK (P : Program) (w : World) (K : PySem.W.Frag) (mg : Str → Option Value) (base : Heap) (k : Nat) (C : Addr) (m : Str) (sp : Sp) : Prop :=
  ∃ (f : Addr) (fd : FuncData) (ps : List Str), Cls K C ∧ Meth K C m f ∧ FnOk P w K mg base (L2.CX P w) k f fd ps sp ∧ Binds K fd ps []
/-- a method that is known by its denotation -/
def KnM (P : Program) (w : World) (K : PySem.W.Frag) (mg : Str → Option Value) (base : Heap) (k n : Nat) (c m : Str) (F : Fn) : Prop := ∀ C, PySem.W.nsIn K mainGlobals c = some (some (.ref C)) → MtK P w K mg base k C m (spD ⟨K, w⟩ n F)
theorem KnM.mono {P : Program} {w : World} {K : PySem.W.Frag} {mg : Str → Option Value} {base : Heap} {j k n : Nat} {c m : Str} {F : Fn} (h : KnM P w K mg base j n c m F) (hk : j ≤ k) : KnM P w K mg base k n c m F := fun C hC => by
  obtain ⟨f, fd, ps, h1, h2, h3, h4⟩ := h C hC
  exact ⟨f, fd, ps, h1, h2, h3.mono hk, h4⟩
theorem KnM.imp {P : Program} {w : World} {K : PySem.W.Frag} {mg : Str → Option Value} {base : Heap} {k n : Nat} {c m : Str} {F G : Fn} (h : KnM P w K mg base k n c m F) (i : ∀ ws m, ws.length = n → G ws m = .stuck ∨ F ws m = G ws m) : KnM P w K mg base k n c m G := fun C hC => by
  obtain ⟨f, fd, ps, h1, h2, h3, h4⟩ := h C hC
  exact ⟨f, fd, ps, h1, h2, h3.imp fun vs H Q E p => spD_imp i p, h4⟩
/-- a class that is made by its name -/
def KnC (P : Program) (w : World) (K : PySem.W.Frag) (mg : Str → Option Value) (base : Heap) (k n : Nat) (c : Str) (F : Fn) : Prop :=
  ∃ (C f : Addr) (fd : FuncData) (ps : List Str), mg c = some (.ref C) ∧ PySem.W.nsIn K mainGlobals c = some (some (.ref C)) ∧ Mk K C f ∧ FnOk P w K mg base (L2.CX P w) k f fd ps (spD ⟨K, w⟩ n F) ∧ Binds K fd ps []
/-- which method is called: by the object's class, where no field has the name -/
def meF (ms : List (Str × Fn)) (x : Str) (o : Wd) (m : Mm) : Option Fn := match o with
  | .ref n => (match m.cells[n]? with
    | some (.ins c fs) => if fldG x fs = none then ms.lookup c else none
    | _ => none)
  | _ => none
def eMe (ms : List (Str × Fn)) (x : Str) (n : Nat) (fo : Em Wd) (fa : Em (List Wd)) : Em Wd := fun env m => (fo env m).bind fun o m => match meF ms x o m with
  | some F => (fa env m).bind fun ws m => if ws.length + 1 = n then F (o :: ws) m else .stuck
  | none => .stuck
def newR (o : Wd) : Wd → Mm → Rs Wd
  | .d .none, m => .ok o m
  | _, _ => .stuck
def eNew (c : Str) (n : Nat) (F : Fn) (fa : Em (List Wd)) : Em Wd := fun env m => (fa env m).bind fun ws m => if ws.length + 1 = n then (F (.ref m.cells.length :: ws) (m.push (.ins c []))).bind (newR (.ref m.cells.length)) else .stuck
section
variable {X : Cx} {W : L2.WX} {CX : CXT} {k : Nat} {C f : Addr} {fd : FuncData} {ps : List Str} {sp : Sp} {E : L2.St → XK} {x m : Str} {p pos apos : Pos} {e o : Expr} {es : List Expr} {ta : TE} {t : TA}
def tMeD (X : Cx) (k : Nat) (m : Str) (W : L2.WX) (ta : TE) (t : TA) : TE := fun σ H Q => ta σ H fun x H1 => ∃ a C dx fs sp, x = .ref a ∧ H1 a = some (.ins C dx fs) ∧ fs.lookup m = none ∧ MtK X.prog X.w X.K X.mg X.base k C m sp ∧ t σ H1 fun vs H2 => sp (x :: vs) H2 Q (WE W σ)
theorem pe_meD {pl : Sem Bool} (he : PE X o ta) (hr : Room k X.A) (tk : Takes X W) (ha : PA X (e :: es) t)
    (hst : starEach (e :: es) X.env = (false, eval e X.env) :: starEach es X.env := by rfl) (hpl : (backTo pos (starEach es X.env)).any (·.1) = false := by rfl)
    (ht : eval (.Call (.Attribute o m apos) (e :: es) [] pos) X.env = (do
      let ov ← eval o X.env
      standAt apos.atName
      let (f, first) ← holding [ov] (getMethod ov m pl)
      callWith pos f first (backTo pos (starEach (e :: es) X.env)) (backToKw pos (keywordEach [] X.env))) := by rfl) :
    PE X (.Call (.Attribute o m apos) (e :: es) [] pos) (tMeD X k m W ta t) := by
  refine ⟨fun pins s σ H Q I h => ?_⟩
  refine PySem.W.methodCall_KW (pl := pl) (thn (he.run pins s σ H _ I h) fun u s1 ⟨x, H1, I1, rx, a, C, dx, fs, sp, ex, ea, l, ⟨f, fd, ps, c, hm, F, hb⟩, q⟩ => ?_) ht
  subst ex
  obtain rfl : u = Value.ref a := rx
  refine getmeth_ok I1 ea c hm l ?_
  refine PySem.W.callWith_K (first := [.ref a]) (h₀ := X.base) I.ok.mod.kin hm.kp (thn (ha.run pos pins s1 σ H1 _ I1 q) fun us s2 ⟨vs, H2, I2, r, q2⟩ => ⟨I2.kIn, ?_⟩) hst hpl
  exact run_fnS (E := WE W) (us := .ref a :: us) (vs := .ref a :: vs) F hr hb (passAt tk σ) I2 (.cons rfl r) q2
theorem pe_meD0 {pl : Sem Bool} (he : PE X o ta) (hr : Room k X.A) (tk : Takes X W)
    (ht : eval (.Call (.Attribute o m apos) [] [] pos) X.env = (do
      let ov ← eval o X.env
      standAt apos.atName
      let (f, first) ← holding [ov] (getMethod ov m pl)
      callWith pos f first (backTo pos (starEach [] X.env)) (backToKw pos (keywordEach [] X.env))) := by rfl) :
    PE X (.Call (.Attribute o m apos) [] [] pos) (tMeD X k m W ta tNil) := by
  refine ⟨fun pins s σ H Q I h => ?_⟩
  refine PySem.W.methodCall_KW (pl := pl) (thn (he.run pins s σ H _ I h) fun u s1 ⟨x, H1, I1, rx, a, C, dx, fs, sp, ex, ea, l, ⟨f, fd, ps, c, hm, F, hb⟩, q⟩ => ?_) ht
  subst ex
  obtain rfl : u = Value.ref a := rx
  refine getmeth_ok I1 ea c hm l ?_
  exact PySem.W.callWith_K0 (first := [.ref a]) I1.kIn hm.kp (run_fnS (E := WE W) (us := [.ref a]) (vs := [.ref a]) F hr hb (passAt tk σ) I1 (.cons rfl .nil) q)
/-- what stands behind the object's evaluation -/
theorem me_cell {K : Kw} {ι : List Addr} {H : Hp} {mm : Mm} {ms : List (Str × Fn)} {o : Wd} {y : V} {F : Fn} (mo : MemOk K ι mm H) (r : RelW K ι H o y) (e : meF ms x o mm = some F) :
    ∃ a C dx gs c, y = .ref a ∧ H a = some (.ins C dx gs) ∧ gs.lookup x = none ∧ PySem.W.nsIn K mainGlobals c = some (some (.ref C)) ∧ ms.lookup c = some F := by
  unfold meF at e
  split at e
  · split at e
    · rename_i c fs hc
      split at e
      · rename_i hf
        obtain ⟨a, rfl, ea⟩ := relW_ref r
        obtain ⟨C, dx, gs, h1, h2, h3⟩ := mo.cell _ _ _ ea hc
        exact ⟨a, C, dx, gs, c, rfl, h2, fs_none h3 hf, h1, e⟩
      · cases e
    · cases e
  · cases e
theorem de_me {ms : List (Str × Fn)} {j k n : Nat} {fo : Em Wd} {fa : Em (List Wd)} {pl : Sem Bool} (hm : ∀ c F, ms.lookup c = some F → KnM X.prog X.w X.K X.mg X.base k n c m F) (tk : Takes X W) (hr : Room j X.A) (hk : k ≤ j) (ho : PE X o (tE X.KW W fo)) (ha : PA X (e :: es) (tA X.KW W fa))
    (hst : starEach (e :: es) X.env = (false, eval e X.env) :: starEach es X.env := by rfl) (hpl : (backTo pos (starEach es X.env)).any (·.1) = false := by rfl)
    (ht : eval (.Call (.Attribute o m apos) (e :: es) [] pos) X.env = (do
      let ov ← eval o X.env
      standAt apos.atName
      let (f, first) ← holding [ov] (getMethod ov m pl)
      callWith pos f first (backTo pos (starEach (e :: es) X.env)) (backToKw pos (keywordEach [] X.env))) := by rfl) :
    PE X (.Call (.Attribute o m apos) (e :: es) [] pos) (tE X.KW W (eMe ms m n fo fa)) :=
  PEimp (pe_meD (k := j) (pl := pl) ho hr tk ha hst hpl ht) fun σ H Q ⟨ι, env, mm, eo, mo, p⟩ => Post.bind eo mo p fun ι1 H1 ow y m1 st1 mo1 eo1 ro p1 => by
    cases q : meF ms m ow m1 with
    | none => rw [q] at p1; exact p1.elim
    | some F =>
      rw [q] at p1
      obtain ⟨a, C, dx, gs, c, e1, e2, e3, e4, e5⟩ := me_cell mo1 ro q
      refine ⟨a, C, dx, gs, _, e1, e2, e3, (hm c F e5).mono hk C e4, Post.bind eo1 mo1 p1 fun ι2 H2 ws xs m2 st2 mo2 eo2 ra p2 => ?_⟩
      by_cases hl : ws.length + 1 = n
      · rw [if_pos hl] at p2
        refine ⟨ι2, m2, ow :: ws, by rw [List.length_cons, ← ra.length]; exact hl, mo2, .cons (ro.step mo1.apart st2) ra, ?_⟩
        cases q2 : F (ow :: ws) m2 with
        | ok a m2 => rw [q2] at p2; exact p2
        | exc x m2 => rw [q2] at p2; exact p2
        | stuck => rw [q2] at p2; exact p2
      · rw [if_neg hl] at p2; exact p2.elim
theorem de_me0 {ms : List (Str × Fn)} {j k n : Nat} {fo : Em Wd} {pl : Sem Bool} (hm : ∀ c F, ms.lookup c = some F → KnM X.prog X.w X.K X.mg X.base k n c m F) (tk : Takes X W) (hr : Room j X.A) (hk : k ≤ j) (ho : PE X o (tE X.KW W fo))
    (ht : eval (.Call (.Attribute o m apos) [] [] pos) X.env = (do
      let ov ← eval o X.env
      standAt apos.atName
      let (f, first) ← holding [ov] (getMethod ov m pl)
      callWith pos f first (backTo pos (starEach [] X.env)) (backToKw pos (keywordEach [] X.env))) := by rfl) :
    PE X (.Call (.Attribute o m apos) [] [] pos) (tE X.KW W (eMe ms m n fo aN)) :=
  PEimp (pe_meD0 (k := j) (pl := pl) ho hr tk ht) fun σ H Q ⟨ι, env, mm, eo, mo, p⟩ => Post.bind eo mo p fun ι1 H1 ow y m1 st1 mo1 eo1 ro p1 => by
    cases q : meF ms m ow m1 with
    | none => rw [q] at p1; exact p1.elim
    | some F =>
      rw [q] at p1
      obtain ⟨a, C, dx, gs, c, e1, e2, e3, e4, e5⟩ := me_cell mo1 ro q
      refine ⟨a, C, dx, gs, _, e1, e2, e3, (hm c F e5).mono hk C e4, ?_⟩
      by_cases hl : 0 + 1 = n
      · have p2 : Post X.KW W (RelW X.KW) ι1 H1 σ Q (F [ow] m1) := by
          have : (if ([] : List Wd).length + 1 = n then F [ow] m1 else .stuck) = F [ow] m1 := if_pos hl
          rw [← this]; exact p1
        refine ⟨ι1, m1, [ow], hl, mo1, .cons ro .nil, ?_⟩
        cases q2 : F [ow] m1 with
        | ok a m2 => rw [q2] at p2; exact p2
        | exc x m2 => rw [q2] at p2; exact p2
        | stuck => rw [q2] at p2; exact p2
      · have : Post X.KW W (RelW X.KW) ι1 H1 σ Q (.stuck : Rs Wd) := by
          have e : (if ([] : List Wd).length + 1 = n then F [ow] m1 else .stuck) = .stuck := if_neg hl
          rw [← e]; exact p1
        exact this.elim
theorem de_new {c : Str} {j k n : Nat} {F : Fn} {fa : Em (List Wd)} (hc : KnC X.prog X.w X.K X.mg X.base k n c F) (tk : Takes X W) (hr : Room j X.A) (hk : k + 1 ≤ j) (hg : Gl X c) (ha : PA X (e :: es) (tA X.KW W fa))
    (hdb : (c == ("__debug__" : Str)) = false := by decide) (he : starEach (e :: es) X.env = (false, eval e X.env) :: starEach es X.env := by rfl) (hpl : (backTo pos (starEach es X.env)).any (·.1) = false := by rfl) :
    PE X (.Call (.Name c p) (e :: es) [] pos) (tE X.KW W (eNew c n F fa)) := by
  obtain ⟨C, f, fd, ps, h1, h2, h3, h4, h5⟩ := hc
  refine PEimp (pe_makeS (E := WE W) h3 h4 (hr.mono hk) hg h1 h5 (fun σ => passAt tk σ) ha hdb he hpl) fun σ H Q ⟨ι, env, mm, eo, mo, p⟩ => Post.bind eo mo p fun ι1 H1 ws xs m1 st1 mo1 eo1 ra p1 => ?_
  by_cases hl : ws.length + 1 = n
  · rw [if_pos hl] at p1
    intro a dx ha1 hdx hne
    have mo2 := mo1.tup (o := .own a) hdx
    have sd : Stp ι1 H1 ι1 (upd H1 dx (.own a)) := stp_tup hdx
    have ha2 : upd H1 dx (.own a) a = none := by rw [upd_ne (Ne.symm hne)]; exact ha1
    have mo3 : MemOk X.KW (ι1 ++ [a]) (m1.push (.ins c [])) (upd (upd H1 dx (.own a)) a (.ins C dx [])) := mo2.push ha2 ⟨C, dx, [], h2, upd_same, trivial⟩
    have st3 : Stp ι1 H1 (ι1 ++ [a]) (upd (upd H1 dx (.own a)) a (.ins C dx [])) := sd.trans (stp_new ha2)
    have rn : RelW X.KW (ι1 ++ [a]) (upd (upd H1 dx (.own a)) a (.ins C dx [])) (.ref m1.cells.length) (.ref a) := .ref (by rw [← mo1.len]; simp)
    refine ⟨ι1 ++ [a], m1.push (.ins c []), .ref m1.cells.length :: ws, by rw [List.length_cons, ← ra.length]; exact hl, mo3, .cons rn (ra.step mo1.apart st3), ?_⟩
    cases q : F (.ref m1.cells.length :: ws) (m1.push (.ins c [])) with
    | stuck => rw [q] at p1; exact p1.elim
    | exc z m2 =>
      rw [q] at p1
      exact fun ι' H' cl d st mo' xo => p1 ι' H' cl d (st3.trans st) mo' xo
    | ok r m2 =>
      rw [q] at p1
      have p1' : Post X.KW W (RelW X.KW) ι1 H1 σ Q (newR (.ref m1.cells.length) r m2) := p1
      intro ι' H' v st mo' rv
      cases r with
      | d y =>
        cases y with
        | none =>
          have p2 : Post X.KW W (RelW X.KW) ι1 H1 σ Q (.ok (.ref m1.cells.length) m2) := p1'
          exact ⟨relW_non rv, p2 ι' H' _ (st3.trans st) mo' (rn.step mo3.apart st)⟩
        | _ => exact p1'.elim
      | _ => exact p1'.elim
  · rw [if_neg hl] at p1; exact p1.elim
end
end DL
set_option Elab.async false
set_option linter.all false
set_option maxRecDepth 100000
set_option maxHeartbeats 2000000
namespace DL
open PySem PySem.Spec PyProof.Rows L2
/-- a method's def, where it stands -/
structure DfM (K : PySem.W.Frag) (c m q : Str) (st : Stmt) : Prop where
  cls : Cls K (He.ga K c)
  meth : Meth K (He.ga K c) m (He.ma K (He.ga K c) m)
  fn : ∃ fd, FunD K m q (defArgs st) (defBody st) (defScope st) [] [] (He.ma K (He.ga K c) m) fd
/-- a class that is made by its name -/
structure DfC (K : PySem.W.Frag) (mg : Str → Option Value) (c q : Str) (st : Stmt) : Prop where
  glo : mg c = some (.ref (He.ga K c))
  ns : PySem.W.nsIn K mainGlobals c = some (some (.ref (He.ga K c)))
  mak : Mk K (He.ga K c) (He.ma K (He.ga K c) "__init__")
  fn : ∃ fd, FunD K "__init__" q (defArgs st) (defBody st) (defScope st) [] [] (He.ma K (He.ga K c) "__init__") fd
theorem clF_of {K : PySem.W.Frag} {cs : List Str} {f : Str} (h : ∀ c ∈ cs, (He.Fa.cls c).ok K = true ∧ (He.Fa.noat c f).ok K = true) : ClF K cs f := fun c hc => by
  obtain ⟨h1, h2⟩ := h c hc
  refine ⟨fun C hC => ?_, fun C hC => ?_⟩
  · rw [← ga_of hC]; exact He.cls_ok h1
  · rw [← ga_of hC]; exact He.noat_ok h2
section
variable {P : Program} {w : World} {K : PySem.W.Frag} {mg : Str → Option Value} {base : Heap}
theorem k_me {c m q : Str} {st : Stmt} {N ps : List Str} {k n j : Nat} {b : Sm} (D : DfM K c m q st) (S : FnScope N ps (defScope st)) (hN : N.length = n) (hj : ps.length = j)
    (hbd : ∀ (f : Addr) (fd : FuncData), FunD K m q (defArgs st) (defBody st) (defScope st) [] [] f fd → Binds K fd ps [])
    (hb : ∀ (f : Addr) (cdv : Value) (A : Around) (outer : List PySem.Env) (s : Shared) (H : Hp) (E : XK), Room k (A.deeper (envOfC q (defScope st) s.heap.objs.size f cdv)) → Takes (cxOf (L2.CX P w) P w K mg base N q (defScope st) f cdv A outer s H E) (fun cls d _ H => E cls d H) →
      PassesOwn (model P w) (A.deeper (envOfC q (defScope st) s.heap.objs.size f cdv)) (envOfC q (defScope st) s.heap.objs.size f cdv) (cxOf (L2.CX P w) P w K mg base N q (defScope st) f cdv A outer s H E).xe →
      PSs (cxOf (L2.CX P w) P w K mg base N q (defScope st) f cdv A outer s H E) (defBody st) (tS ⟨K, w⟩ (fun cls d _ H => E cls d H) b)) : KnM P w K mg base (k + 1) j c m (runF n b) := fun C hC => by
  obtain ⟨fd, F⟩ := D.fn
  have e : He.ga K c = C := ga_of hC
  refine ⟨He.ma K (He.ga K c) m, fd, ps, e ▸ D.cls, ?_, d_fn F S hN hj fun cdv A outer s H E hr tk hp => hb _ cdv A outer s H E hr tk hp, hbd _ fd F⟩
  have := D.meth
  rw [e] at this ⊢
  exact this
theorem k_cl {c q : Str} {st : Stmt} {N ps : List Str} {k n j : Nat} {b : Sm} (D : DfC K mg c q st) (S : FnScope N ps (defScope st)) (hN : N.length = n) (hj : ps.length = j)
    (hbd : ∀ (f : Addr) (fd : FuncData), FunD K "__init__" q (defArgs st) (defBody st) (defScope st) [] [] f fd → Binds K fd ps [])
    (hb : ∀ (f : Addr) (cdv : Value) (A : Around) (outer : List PySem.Env) (s : Shared) (H : Hp) (E : XK), Room k (A.deeper (envOfC q (defScope st) s.heap.objs.size f cdv)) → Takes (cxOf (L2.CX P w) P w K mg base N q (defScope st) f cdv A outer s H E) (fun cls d _ H => E cls d H) →
      PassesOwn (model P w) (A.deeper (envOfC q (defScope st) s.heap.objs.size f cdv)) (envOfC q (defScope st) s.heap.objs.size f cdv) (cxOf (L2.CX P w) P w K mg base N q (defScope st) f cdv A outer s H E).xe →
      PSs (cxOf (L2.CX P w) P w K mg base N q (defScope st) f cdv A outer s H E) (defBody st) (tS ⟨K, w⟩ (fun cls d _ H => E cls d H) b)) : KnC P w K mg base (k + 1) j c (runF n b) := by
  obtain ⟨fd, F⟩ := D.fn
  exact ⟨He.ga K c, He.ma K (He.ga K c) "__init__", fd, ps, D.glo, D.ns, D.mak, d_fn F S hN hj fun cdv A outer s H E hr tk hp => hb _ cdv A outer s H E hr tk hp, hbd _ fd F⟩
end
end DL
set_option Elab.async false
set_option linter.all false
set_option maxRecDepth 100000
set_option maxHeartbeats 2000000
namespace DL
open PySem PySem.Spec PyProof.Rows L2
/-- the caught error: its data, its address, class and dict, its slot -/
structure XJ where
  x : Ex
  a : Addr
  C : Addr
  cls : Value
  d : Option Addr
  i : Nat
def JOk (K : Kw) (J : XJ) (ι : List Addr) (H : Hp) (σ : L2.St) : Prop :=
  J.cls = .ref J.C ∧ (J.i < σ.length → σ[J.i]? = some (some (.ref J.a))) ∧ ((J.x.fs = [] ∧ J.d = none) ∨ ∃ dd gs, J.d = some dd ∧ H dd = some (.xd gs) ∧ dd ∉ ι ∧ FsOk K ι H J.x.fs gs)
/-- a field of the error -/
def eLf (x : Ex) (f : Str) : Em Wd := fun _ m => match x.fs.lookup f with
  | some w => .ok w m
  | none => .stuck
def tX {α β : Type} (K : Kw) (J : XJ) (W : L2.WX) (rel : List Addr → Hp → α → β → Prop) (f : Em α) : L2.St → Hp → (β → Hp → Prop) → Prop := fun σ H Q =>
  ∃ ι env m, EnvOk K ι H env σ ∧ MemOk K ι m H ∧ JOk K J ι H σ ∧ Post K W rel ι H σ Q (f env m)
abbrev tXE (K : Kw) (J : XJ) (W : L2.WX) (f : Em Wd) : TE := tX K J W (RelW K) f
abbrev tXT (K : Kw) (J : XJ) (W : L2.WX) (f : Em Bool) : TT := tX K J W (fun _ _ a b => a = b) f
abbrev tXA (K : Kw) (J : XJ) (W : L2.WX) (f : Em (List Wd)) : TA := tX K J W (RelWs K) f
def tXS (K : Kw) (J : XJ) (W : L2.WX) (f : Sm) : TS := fun D σ H => ∃ ι env m, EnvOk K ι H env σ ∧ MemOk K ι m H ∧ JOk K J ι H σ ∧ PostS K W D ι H (f env m)
section
variable {X : Cx} {W : L2.WX} {K : Kw} {J : XJ} {ι ι' ι1 : List Addr} {H H' H1 : Hp} {σ : L2.St}
theorem JOk.step (h : JOk K J ι H σ) (ap : Apart ι H) (st : Stp ι H ι1 H1) : JOk K J ι1 H1 σ := by
  obtain ⟨h1, h2, h3⟩ := h
  refine ⟨h1, h2, ?_⟩
  rcases h3 with h3 | ⟨dd, gs, e1, e2, e3, e4⟩
  · exact .inl h3
  · refine .inr ⟨dd, gs, e1, st.fix _ _ e2 e3, fun z => ?_, e4.step ap st⟩
    have := st.new _ z e3
    rw [e2] at this
    cases this
theorem Post.bindX {α β γ δ : Type} {ra : List Addr → Hp → α → β → Prop} {rc : List Addr → Hp → γ → δ → Prop} {Q : δ → Hp → Prop} {P : β → Hp → Prop} {f : Em α} {k : α → Mm → Rs γ} {env : Env} {m : Mm}
    (eo : EnvOk K ι H env σ) (mo : MemOk K ι m H) (j : JOk K J ι H σ) (p : Post K W rc ι H σ Q ((f env m).bind k))
    (h : ∀ ι1 H1 a b m1, Stp ι H ι1 H1 → MemOk K ι1 m1 H1 → EnvOk K ι1 H1 env σ → JOk K J ι1 H1 σ → ra ι1 H1 a b → Post K W rc ι1 H1 σ Q (k a m1) → P b H1) : tX K J W ra f σ H P := by
  refine ⟨ι, env, m, eo, mo, j, ?_⟩
  cases e : f env m with
  | ok a m1 => rw [e] at p; exact fun ι1 H1 b st mo1 r => h ι1 H1 a b m1 st mo1 (eo.step mo.apart st) (j.step mo.apart st) r (p.step st)
  | exc x m1 => rw [e] at p; exact p
  | stuck => rw [e] at p; exact p
theorem PostS.bindX {α β : Type} {ra : List Addr → Hp → α → β → Prop} {D : Ends} {P : β → Hp → Prop} {f : Em α} {k : α → Mm → Sr} {env : Env} {m : Mm}
    (eo : EnvOk K ι H env σ) (mo : MemOk K ι m H) (j : JOk K J ι H σ) (p : PostS K W D ι H (match f env m with | .ok a m1 => k a m1 | .exc x m1 => .exc x env m1 | .stuck => .stuck))
    (h : ∀ ι1 H1 a b m1, Stp ι H ι1 H1 → MemOk K ι1 m1 H1 → EnvOk K ι1 H1 env σ → JOk K J ι1 H1 σ → ra ι1 H1 a b → PostS K W D ι1 H1 (k a m1) → P b H1) : tX K J W ra f σ H P := by
  refine ⟨ι, env, m, eo, mo, j, ?_⟩
  cases e : f env m with
  | ok a m1 => rw [e] at p; exact fun ι1 H1 b st mo1 r => h ι1 H1 a b m1 st mo1 (eo.step mo.apart st) (j.step mo.apart st) r (p.step st)
  | exc x m1 =>
    rw [e] at p
    exact fun ι1 H1 c d st mo1 xo => p ι1 H1 σ c d st mo1 (eo.step mo.apart st) xo
  | stuck => rw [e] at p; exact p
theorem xe_of {e : Expr} {f : Em Wd} (h : PE X e (tE X.KW W f)) : PE X e (tXE X.KW J W f) := PEimp h fun σ H Q ⟨ι, env, m, eo, mo, _, p⟩ => ⟨ι, env, m, eo, mo, p⟩
theorem xt_of {e : Expr} {f : Em Bool} (h : PT X e (tT X.KW W f)) : PT X e (tXT X.KW J W f) := PTimp h fun σ H Q ⟨ι, env, m, eo, mo, _, p⟩ => ⟨ι, env, m, eo, mo, p⟩
theorem xss_of {b : List Stmt} {f : Sm} (h : PSs X b (tS X.KW W f)) : PSs X b (tXS X.KW J W f) := PSsimp h fun D σ H ⟨ι, env, m, eo, mo, _, p⟩ => ⟨ι, env, m, eo, mo, p⟩
theorem xe_lf {x : Ex} {a C : Addr} {cls : Value} {d : Option Addr} {i : Nat} {oe : Obj} {pn : List (Addr × Obj)} {n f : Str} {p pos : Pos} (T : XfC X.K C) (hno : PySem.W.findIn X.K (.ref C) f = some none) (hz : Zc cls d oe) (hf : ∃ vs, oe.data = .fields vs)
    (hN : X.N[i]? = some n) (hv : Vis X.env.scope n) (hd : (n == ("__debug__" : Str)) = false := by decide) (hcd : (n == ("__classdict__" : Str)) = false := by decide) (hb : attributeBase (.Name n p) f X.env (eval (.Name n p) X.env) = eval (.Name n p) X.env := by rfl) :
    PE (X.suite a ((a, oe) :: pn)) (.Attribute (.Name n p) f pos) (tXE X.KW ⟨x, a, C, cls, d, i⟩ W (eLf x f)) :=
  PEimp (pe_lfF (i := i) T hno hz hf hN hv hd hcd hb) fun σ H Q ⟨ι, env, m, eo, mo, ⟨h1, h2, h3⟩, p⟩ => by
    unfold eLf at p
    cases e : x.fs.lookup f with
    | none => rw [e] at p; exact p.elim
    | some w =>
      rw [e] at p
      rcases h3 with ⟨h3, _⟩ | ⟨dd, gs, e1, e2, e3, e4⟩
      · rw [h3] at e; cases e
      · have key : ∀ {fs : List (Str × Wd)} {gs : List (Str × V)}, FsOk X.KW ι H fs gs → fs.lookup f = some w → ∃ v, gs.lookup f = some v ∧ RelW X.KW ι H w v := by
          intro fs
          induction fs with
          | nil => intro gs _ e; cases e
          | cons q fs ih =>
            intro gs ho e
            cases gs with
            | nil => exact ho.elim
            | cons q' gs =>
              obtain ⟨g, u⟩ := q
              obtain ⟨g', v⟩ := q'
              obtain ⟨k1, k2, k3⟩ := ho
              subst k1
              by_cases hg : f = g
              · subst hg
                simp [List.lookup] at e ⊢
                subst e
                exact k2
              · have hb : (f == g) = false := by simpa using hg
                simp only [List.lookup, hb] at e ⊢
                exact ih k3 e
        obtain ⟨v, q1, q2⟩ := key e4 e
        exact ⟨dd, gs, v, h2, h1, e1, e2, q1, p ι H v .refl mo q2⟩
theorem xa_nil : PA X [] (tXA X.KW J W aN) := PAimp pa_nil fun σ H Q ⟨ι, env, m, eo, mo, _, p⟩ => post_ok p mo .nil
theorem xa_cons {e : Expr} {es : List Expr} {f : Em Wd} {g : Em (List Wd)} (ha : PE X e (tXE X.KW J W f)) (hb : PA X es (tXA X.KW J W g)) (hs : starEach (e :: es) X.env = (false, eval e X.env) :: starEach es X.env := by rfl) : PA X (e :: es) (tXA X.KW J W (aC f g)) :=
  PAimp (pa_cons ha hb hs) fun σ H Q ⟨ι, env, m, eo, mo, j, p⟩ => Post.bindX eo mo j p fun ι1 H1 a x m1 st1 mo1 eo1 j1 ra p1 => Post.bindX eo1 mo1 j1 p1 fun ι2 H2 b y m2 st2 mo2 eo2 j2 rb p2 => post_ok p2 mo2 (.cons (ra.step mo1.apart st2) rb)
theorem xe_tup {es : List Expr} {x1 pos} {f : Em (List Wd)} (h : PA X es (tXA X.KW J W f)) : PE X (.Tuple es x1 pos) (tXE X.KW J W (eN tupO f)) :=
  PEimp (pe_tupN h) fun σ H Q ⟨ι, env, m, eo, mo, j, p⟩ => Post.bindX eo mo j p fun ι1 H1 ws xs m1 st1 mo1 eo1 j1 ra p1 => by
    unfold tupO at p1
    by_cases hl : ws.length ≤ LIM
    · rw [if_pos hl] at p1
      have hl' : xs.length ≤ sizeLine := by rw [← ra.length, ← LIM_eq]; exact hl
      exact ⟨hl', fun q o hq ho => p1 ι1 _ _ (stp_tup hq) (mo1.tup hq) (mkTup_ok (SqP.new ho) (ra.step mo1.apart (stp_tup hq)))⟩
    · rw [if_neg hl] at p1; exact p1.elim
theorem post_e2X {g : Op2} {fa fb : Em Wd} {env : Env} {m : Mm} {Q : VK} (eo : EnvOk K ι H env σ) (mo : MemOk K ι m H) (j : JOk K J ι H σ) (p : Post K W (RelW K) ι H σ Q (e2 g fa fb env m)) : tXE K J W fa σ H fun x H1 => tXE K J W fb σ H1 fun y H2 => rO K g x y H2 Q :=
  Post.bindX eo mo j p fun ι1 H1 a x m1 st1 mo1 eo1 j1 ra p1 => Post.bindX eo1 mo1 j1 p1 fun ι2 H2 b y m2 st2 mo2 eo2 j2 rb p2 => ⟨ι2, m2, a, b, mo2, ra.step mo1.apart st2, rb, p2.w0⟩
theorem xe_cmp {a b : Expr} {op : CmpOp} {g : Op2} {fa fb : Em Wd} {pos : Pos} (ho : OpR X (compareOp op) (rO X.KW g)) (ha : PE X a (tXE X.KW J W fa)) (hb : PE X b (tXE X.KW J W fb)) (hm : behindInMarks op b = false) : PE X (.Compare a [op] [b] pos) (tXE X.KW J W (e2 g fa fb)) :=
  PEimp (pe_cmpR ho ha hb hm) fun σ H Q ⟨ι, env, m, eo, mo, j, p⟩ => post_e2X eo mo j p
theorem xt_cmp {a b : Expr} {op : CmpOp} {g : Op2} {fa fb : Em Wd} {pos : Pos} (ho : OpR X (compareOp op) (rO X.KW g)) (ha : PE X a (tXE X.KW J W fa)) (hb : PE X b (tXE X.KW J W fb)) (hm : behindInMarks op b = false) : PT X (.Compare a [op] [b] pos) (tXT X.KW J W (b2 g fa fb)) := by
  refine PTimp (pt_cmpR ho ha hb hm) fun σ H Q ⟨ι, env, m, eo, mo, j, p⟩ => ?_
  refine post_e2X (Q := fun x H' => ∃ k, x = .bl k ∧ Q k H') eo mo j ?_
  unfold b2 at p
  cases q : e2 g fa fb env m with
  | stuck => rw [q] at p; exact p
  | exc x m1 => rw [q] at p; exact p
  | ok w m1 =>
    rw [q] at p
    simp only [Rs.bind_ok] at p
    cases q2 : asB w with
    | none => rw [q2] at p; exact p.elim
    | some b =>
      rw [q2] at p
      have := asB_ok q2
      subst this
      intro ι' H' v st mo' r
      exact ⟨b, relW_bl r, p ι' H' b st mo' rfl⟩
theorem xe_one {a : Expr} {op : BoolOp} {pos : Pos} {f : Em Wd} (h : PE X a (tXE X.KW J W f)) : PE X (.BoolOp op [a] pos) (tXE X.KW J W f) := pe_one h
theorem xe_and {a b : Expr} {rest : List Expr} {pos : Pos} {f g : Em Wd} (h : PE X a (tXE X.KW J W f)) (h2 : PE X (.BoolOp .And (b :: rest) pos) (tXE X.KW J W g)) : PE X (.BoolOp .And (a :: b :: rest) pos) (tXE X.KW J W (eAnd f g)) :=
  PEimp (pe_andT h h2) fun σ H Q ⟨ι, env, m, eo, mo, j, p⟩ => Post.bindX eo mo j p fun ι1 H1 a x m1 st1 mo1 eo1 j1 ra p1 => by
    cases q : truO a m1 with
    | none => simp only [q] at p1; exact p1.elim
    | some b =>
      simp only [q] at p1
      refine ⟨b, truO_ok mo1 ra q, ?_⟩
      cases b with
      | true => exact ⟨ι1, env, m1, eo1, mo1, j1, p1⟩
      | false => exact post_ok p1 mo1 ra
theorem tBX_or {f g : Em Bool} {Q : Bool → Hp → Prop} (h : tXT K J W (bOr f g) σ H Q) : tOr (tXT K J W f) (tXT K J W g) σ H Q := by
  obtain ⟨ι, env, m, eo, mo, j, p⟩ := h
  refine Post.bindX eo mo j p fun ι1 H1 a x m1 st1 mo1 eo1 j1 ra p1 => ?_
  subst ra
  cases a with
  | true => exact post_ok p1 mo1 rfl
  | false => exact ⟨ι1, env, m1, eo1, mo1, j1, p1⟩
theorem xw_or1 {a : Expr} {pos : Pos} {f : Em Bool} (h : PT X a (tXT X.KW J W f)) : PW X (.BoolOp .Or [a] pos) (tXT X.KW J W f) := pw_or1 h
theorem xw_or {a b : Expr} {rest : List Expr} {pos : Pos} {f g : Em Bool} (h : PT X a (tXT X.KW J W f)) (h2 : PW X (.BoolOp .Or (b :: rest) pos) (tXT X.KW J W g)) : PW X (.BoolOp .Or (a :: b :: rest) pos) (tXT X.KW J W (bOr f g)) := PWimp (pw_or h h2) fun _ _ _ => tBX_or
theorem xs_ret {e : Expr} {pos : Pos} {f : Em Wd} (h : PE X e (tXE X.KW J W f)) : PSs X [.Return (some e) pos] (tXS X.KW J W (sRet f)) :=
  PSsimp (pss_one (ps_ret h)) fun D σ H ⟨ι, env, m, eo, mo, j, p⟩ => PostS.bindX eo mo j p fun ι1 H1 a x m1 st1 mo1 eo1 j1 ra p1 => p1 ι1 H1 x .refl mo1 ra
theorem xs_if {c : Expr} {a b : List Stmt} {pos : Pos} {fc : Em Bool} {f g : Sm} (hc : PT X c (tXT X.KW J W fc)) (ha : PSs X a (tXS X.KW J W f)) (hb : PSs X b (tXS X.KW J W g)) : PSs X [.If c a b pos] (tXS X.KW J W (sIf fc f g)) :=
  PSsimp (pss_one (ps_if hc ha hb)) fun D σ H ⟨ι, env, m, eo, mo, j, p⟩ => PostS.bindX eo mo j p fun ι1 H1 a x m1 st1 mo1 eo1 j1 ra p1 => by
    subst ra
    cases a with
    | true => exact ⟨ι1, env, m1, eo1, mo1, j1, p1⟩
    | false => exact ⟨ι1, env, m1, eo1, mo1, j1, p1⟩
/-- a suite that reads the error, its class being c itself -/
def hRun (c : Str) (b : Ex → Sm) : Ex → Sm := fun x env m => if x.cls = c then b x env m else .stuck
theorem hs_x {a C : Addr} {oe : Obj} {cls : Value} {d : Option Addr} {pn : List (Addr × Obj)} {i : Nat} {c : Str} {b : Ex → Sm} {suite : List Stmt} (hn : PySem.W.nsIn X.K mainGlobals c = some (some (.ref C)))
    (h : ∀ x : Ex, PSs (X.suite a ((a, oe) :: pn)) suite (tXS X.KW ⟨x, a, C, cls, d, i⟩ W0 (b x))) :
    PSs (X.suite a ((a, oe) :: pn)) suite (tsX X.KW (some i) (hRun c b) a cls d) := by
  refine ⟨fun pins s σ H D I hw => ?_⟩
  obtain ⟨ι, env, m, x, eo, mo, xo, hi, p⟩ := hw
  have p' : PostS X.KW W0 D ι H (if x.cls = c then b x env m else .stuck) := p
  by_cases hc : x.cls = c
  · rw [if_pos hc] at p'
    refine (h x).run pins s σ H D I ⟨ι, env, m, eo, mo, ?_, p'⟩
    obtain ⟨C0, h1, h2, h3⟩ := xo
    rw [hc, hn] at h1
    cases h1
    refine ⟨h2, hi i rfl, ?_⟩
    rcases h3 with h3 | ⟨dd, gs, e1, e2, e3⟩
    · exact .inl h3
    · refine .inr ⟨dd, gs, e1, e2, fun z => ?_, e3⟩
      obtain ⟨k, hk, e⟩ := List.getElem_of_mem z
      have hk2 : k < m.cells.length := by rw [← mo.len]; exact hk
      have co := mo.cell k dd m.cells[k] (by rw [List.getElem?_eq_getElem hk, e]) (List.getElem?_eq_getElem hk2)
      cases hcell : m.cells[k] with
      | lst xs => rw [hcell] at co; obtain ⟨_, q, _⟩ := co; rw [e2] at q; cases q
      | dct xs => rw [hcell] at co; obtain ⟨_, q, _⟩ := co; rw [e2] at q; cases q
      | ndc xs => rw [hcell] at co; obtain ⟨_, _, _, _, _, q, _⟩ := co; rw [e2] at q; cases q
      | gdc xs => rw [hcell] at co; obtain ⟨_, _, _, _, q, _⟩ := co; rw [e2] at q; cases q
      | ins c fs => rw [hcell] at co; obtain ⟨_, _, _, _, q, _⟩ := co; rw [e2] at q; cases q
      | tab x q => rw [hcell] at co; obtain ⟨_, q, _⟩ := co.2; rw [e2] at q; cases q
  · rw [if_neg hc] at p'; exact p'.elim
end
end DL
set_option Elab.async false
set_option linter.all false
set_option maxRecDepth 100000
set_option maxHeartbeats 2000000
namespace DL
open PySem PySem.Spec PyProof.Rows L2
def splR (a : Str) (y : Wd) (m : Mm) : Option (Wd × Mm) := match y with
  | .d (.str b) => if b.length ≠ 0 ∧ a.length + 2 ≤ LIM then some (.ref m.cells.length, m.push (.lst ((Txt.split a b).map fun s => .d (.str s)))) else none
  | _ => none
def eSplit (fo fe : Em Wd) : Em Wd := fun env m => (fo env m).bind fun w m1 => match w with
  | .d (.str a) => (fe env m1).bind fun y m2 => Rs.of (splR a y m2)
  | _ => .stuck
def intOA : OpN := fun ws m => match ws with
  | [.d (.str a)] => if a.length ≤ 640 then (PySem.intText? a).map fun n => (.d (.int n), m) else none
  | ws => intO1 ws m
section
variable {X : Cx} {W : L2.WX}
theorem de_split {o e : Expr} {apos pos : Pos} {fo fe : Em Wd} (ho : PE X o (tE X.KW W fo)) (he : PE X e (tE X.KW W fe)) (hs : starEach [e] X.env = [(false, eval e X.env)] := by rfl) (hbase : attributeBase o "split" X.env (eval o X.env) = eval o X.env := by rfl) (hline : (apos.endLine == pos.line) = true := by rfl) :
    PE X (.Call (.Attribute o "split" apos) [e] [] pos) (tE X.KW W (eSplit fo fe)) :=
  PEimp (pe_split ho he hs hbase hline) fun σ H Q ⟨ι, env, m, eo, mo, p⟩ => Post.bind eo mo p fun ι1 H1 w x m1 st1 mo1 eo1 ra p1 => by
    split at p1
    · rename_i a
      refine ⟨⟨a, relW_str ra⟩, Post.bind eo1 mo1 p1 fun ι2 H2 y v m2 st2 mo2 eo2 rb p2 => ?_⟩
      unfold splR at p2
      split at p2
      · rename_i b
        split at p2
        · rename_i hl
          refine ⟨a, b, relW_str ra, by rw [relW_str rb], by simpa using hl.1, by rw [← LIM_eq]; exact hl.2, fun q hq => ?_⟩
          obtain ⟨c1, c2⟩ := cell_new mo2 hq (relStrs (Txt.split a b))
          exact p2 _ _ _ (stp_new hq) c1 c2
        · exact p2.elim
      · exact p2.elim
    · exact p1.elim
theorem o_intA : CallR X (.type "int") (rON X.KW intOA) := by
  refine CallRimp (CallR.or o_int1 call_int_str) fun xs H Q ⟨ι, m, ws, mo, ra, p⟩ => ?_
  unfold intOA at p
  split at p
  · rename_i a
    obtain ⟨v, rfl, r⟩ := vals_one ra
    split at p
    · rename_i hl
      cases e : PySem.intText? a with
      | none => rw [e] at p; exact p.elim
      | some n =>
        rw [e] at p
        exact .inr ⟨a, n, by rw [relW_str r], e, hl, post_ok p mo (.d (.int _))⟩
    · exact p.elim
  · exact .inl ⟨ι, m, _, mo, ra, p⟩
end
theorem sSeq_assoc (f g h : Sm) : sSeq (sSeq f g) h = sSeq f (sSeq g h) := by
  funext env m
  unfold sSeq
  cases f env m with
  | go fl e m1 => cases fl <;> rfl
  | exc x e m1 => rfl
  | stuck => rfl
/-- the first value made, then the rest, that does not look at its slot -/
theorem sPar_cut {i : Nat} {js : List Nat} {f : Em Wd} {g : Em (List Wd)} (hg : ∀ env m w, g (env.set i w) m = g env m) (hx : ∀ env m x m1, g env m ≠ .exc x m1) : sPar (i :: js) (aC f g) = sSeq (sSet i f) (sPar js g) := by
  funext env m
  show rs ((f env m).bind fun w m => (g env m).bind fun ws m => .ok (w :: ws) m) env (fun ws m => match setsE (i :: js) ws env with
    | some env => Sr.go .nx env m
    | none => .stuck) = (rs (f env m) env fun w m => Sr.go .nx (env.set i (some w)) m).seq (sPar js g)
  cases f env m with
  | exc x m1 => rfl
  | stuck => rfl
  | ok w m1 =>
    show rs ((g env m1).bind fun ws m => .ok (w :: ws) m) env _ = rs (g (env.set i (some w)) m1) (env.set i (some w)) _
    rw [hg]
    cases q : g env m1 with
    | exc x m1 => exact absurd q (hx _ _ _ _)
    | stuck => rfl
    | ok ws m2 => rfl
end DL
namespace DL
open PySem PySem.Spec PyProof.Rows L2
theorem cut_c1 {d : PyData} {i : Nat} : (∀ env m w, aC (eC (.d d)) aN (List.set env i w) m = aC (eC (.d d)) aN env m) ∧ ∀ env m x m1, aC (eC (.d d)) aN env m ≠ .exc x m1 := ⟨fun _ _ _ => rfl, fun _ _ _ _ h => nomatch h⟩
end DL
set_option Elab.async false
set_option linter.all false
set_option maxRecDepth 100000
set_option maxHeartbeats 2000000
namespace DL
open PySem PySem.Spec PyProof.Rows L2
theorem clF_nil {K : PySem.W.Frag} {f : Str} : ClF K [] f := fun _ h => by cases h
theorem clF_cons {K : PySem.W.Frag} {c f : Str} {cs : List Str} (h1 : (He.Fa.cls c).ok K = true) (h2 : (He.Fa.noat c f).ok K = true) (r : ClF K cs f) : ClF K (c :: cs) f := fun c' hc => by
  rcases List.mem_cons.mp hc with e | hc
  · subst e
    exact clF_of (cs := [c']) (fun c h => by rw [List.mem_singleton.mp h]; exact ⟨h1, h2⟩) c' List.mem_cons_self
  · exact r c' hc
theorem clfs_nil {K : PySem.W.Frag} {cs : List Str} : ∀ f ∈ ([] : List Str), ClF K cs f := fun _ h => by cases h
theorem clfs_cons {K : PySem.W.Frag} {cs fs : List Str} {f : Str} (h : ClF K cs f) (r : ∀ f ∈ fs, ClF K cs f) : ∀ g ∈ f :: fs, ClF K cs g := fun g hg => by
  rcases List.mem_cons.mp hg with e | hg
  · rw [e]; exact h
  · exact r g hg
section
variable {P : Program} {w : World} {K : PySem.W.Frag} {mg : Str → Option Value} {base : Heap}
def KMs (P : Program) (w : World) (K : PySem.W.Frag) (mg : Str → Option Value) (base : Heap) (k n : Nat) (m : Str) (ms : List (Str × Fn)) : Prop := ∀ c F, ms.lookup c = some F → KnM P w K mg base k n c m F
theorem km_nil {k n : Nat} {m : Str} : KMs P w K mg base k n m [] := fun _ _ h => by cases h
theorem km_cons {j k n : Nat} {c m : Str} {F : Fn} {ms : List (Str × Fn)} (h : KnM P w K mg base j n c m F) (hk : j ≤ k) (r : KMs P w K mg base k n m ms) : KMs P w K mg base k n m ((c, F) :: ms) := fun c' F' e => by
  by_cases hc : c' = c
  · subst hc
    simp [List.lookup] at e
    subst e
    exact h.mono hk
  · have hb : (c' == c) = false := by simpa using hc
    simp only [List.lookup, hb] at e
    exact r c' F' e
end
end DL
set_option Elab.async false
set_option linter.all false
set_option maxRecDepth 100000
set_option maxHeartbeats 2000000
namespace Hn
open PySem PySem.Spec PyProof.Rows L2 DL
noncomputable section
/-- _law_bag(script): 0=script 1=cell -/
def b__law_bag : Sm :=
sRet (eN lstO (aC (eC (.d (.int 0))) (aC (eC (.d (.int 1234567891))) (aC (eC (.d (.int 0))) (aC (eLc (iVal (eSl (eV 0) oNone (oSome (eC (.d (.int 63)))))) (.name 1) (fun _ m => .ok true m) (eN absO (aC (eV 1) aN)) [1]) aN)))))
@[irreducible] def N__law_bag : Fn := runF 2 b__law_bag
/-- _law_take(bag, many): 0=bag 1=many 2=cell 3=stirred 4=value 5=begin 6=second -/
def b__law_take : Sm :=
sSeq (sIf (b2 eqO (e2 ixO (eV 0) (eC (.d (.int 0)))) (eC (.d (.int 0))))
(sSeq (sSet 2 (e2 ixO (e2 addO (eSl (e2 ixO (eV 0) (eC (.d (.int 3)))) (oSome (e2 ixO (eV 0) (eC (.d (.int 2))))) oNone) (eN lstO (aC (eC (.d (.int 0))) aN))) (eC (.d (.int 0))))) <|
sSeq (sAugL iaddO (eV 0) (eC (.d (.int 2))) (eC (.d (.int 1)))) <|
sSeq (sIf (b2 geO (eV 2) (e2 powO (eC (.d (.int 10))) (eC (.d (.int 18)))))
(sSub (eV 0) (eC (.d (.int 0))) (eV 2))
(sNop)) <|
sSeq (sSet 3 (e2 addO (e2 addO (e2 mulO (e2 ixO (eV 0) (eC (.d (.int 1)))) (eC (.d (.int 48271)))) (e2 modO (eN intO1 (aC (eV 2) aN)) (eC (.d (.int 2147483647))))) (e2 mulO (eC (.d (.int 7919))) (e2 ixO (eV 0) (eC (.d (.int 2))))))) <|
sSub (eV 0) (eC (.d (.int 1))) (e2 modO (eN intO1 (aC (eV 3) aN)) (eC (.d (.int 2147483647)))))
(sNop)) <|
sSeq (sIf (b2 gtO (e2 ixO (eV 0) (eC (.d (.int 0)))) (eC (.d (.int 0))))
(sSeq (sSet 4 (e2 modO (eN intO1 (aC (e2 ixO (eV 0) (eC (.d (.int 0)))) aN)) (eV 1))) <|
sSeq (sSub (eV 0) (eC (.d (.int 0))) (e2 fdivO (eN intO1 (aC (e2 ixO (eV 0) (eC (.d (.int 0)))) aN)) (eV 1))) <|
sRet (eV 4))
(sNop)) <|
sSeq (sSet 5 (e2 modO (eN intO1 (aC (e2 mulO (e2 addO (e2 ixO (eV 0) (eC (.d (.int 1)))) (eC (.d (.int 1)))) (eC (.d (.int 39373)))) aN)) (eC (.d (.int 1000000007))))) <|
sSeq (sSet 6 (e2 modO (eN intO1 (aC (e2 mulO (e2 modO (eN intO1 (aC (e2 mulO (eV 5) (eV 5)) aN)) (eC (.d (.int 998244353)))) (eC (.d (.int 30011)))) aN)) (eC (.d (.int 998244353))))) <|
sRet (e2 modO (eN intO1 (aC (e2 fdivO (eV 6) (eC (.d (.int 7)))) aN)) (eV 1))
@[irreducible] def N__law_take : Fn := runF 7 b__law_take
/-- _law_some(bag, things): 0=bag 1=things -/
def b__law_some : Sm :=
sRet (e2 ixO (eV 1) (eCall 2 N__law_take (aC (eV 0) (aC (eN lenO (aC (eV 1) aN)) aN))))
@[irreducible] def N__law_some : Fn := runF 2 b__law_some
/-- _law_alike(found, due): 0=found 1=due 2=pairs 3=at 4=one 5=other -/
def b__law_alike : Sm :=
sSeq (sPar [2, 3] (aC (eN lstO (aC (eN tupO (aC (eV 0) (aC (eV 1) aN))) aN)) (aC (eC (.d (.int 0))) aN))) <|
sSeq (sWh (b2 ltO (eV 3) (eN lenO (aC (eV 2) aN)))
(sSeq (sAsg (.tup [.name 4, .name 5]) (e2 ixO (eV 2) (eV 3))) <|
sSeq (sAug 3 iaddO (eC (.d (.int 1)))) <|
sSeq (sIf (bOr (b2 neO (eIsi ["bool"] (eV 4)) (eIsi ["bool"] (eV 5))) (b2 neO (eIsi ["str"] (eV 4)) (eIsi ["str"] (eV 5))))
(sRet (eC (.d (.bool false))))
(sNop)) <|
sSeq (sIf (b2 neO (eIsi ["tuple", "list"] (eV 4)) (eIsi ["tuple", "list"] (eV 5)))
(sRet (eC (.d (.bool false))))
(sNop)) <|
sIf (bV (eIsi ["tuple", "list"] (eV 4)))
(sSeq (sIf (bOr (b2 neO (eIsi ["tuple"] (eV 4)) (eIsi ["tuple"] (eV 5))) (b2 neO (eN lenO (aC (eV 4) aN)) (eN lenO (aC (eV 5) aN))))
(sRet (eC (.d (.bool false))))
(sNop)) <|
sDrop (eM extO (eV 2) (aC (eN lzO (aC (eV 4) (aC (eV 5) aN))) aN)))
(sIf (b2 neO (eV 4) (eV 5))
(sRet (eC (.d (.bool false))))
(sNop)))) <|
sRet (eC (.d (.bool true)))
@[irreducible] def N__law_alike : Fn := runF 6 b__law_alike
end
end Hn
set_option Elab.async false
set_option linter.all false
set_option maxRecDepth 100000
set_option maxHeartbeats 2000000
namespace Hs
open PySem PySem.Spec PyProof.Rows L2 DL Hn
noncomputable section
def sbl : List ((Str × Str) × Bool) := []
end
end Hs
set_option Elab.async false
set_option linter.all false
set_option maxRecDepth 100000
set_option maxHeartbeats 2000000
namespace DL
open PySem PySem.Spec PyProof.Rows L2
def wpR {α : Type} (r : Rs α) (Q : α → Mm → Prop) : Prop := match r with
  | .ok a m => Q a m
  | _ => False
def wpO (r : Option (Wd × Mm)) (Q : Wd → Mm → Prop) : Prop := match r with
  | some (w, m) => Q w m
  | none => False
def wpS (r : Sr) (K : Env → Mm → Prop) (Q : Fl → Env → Mm → Prop) : Prop := match r with
  | .go .nx e m => K e m
  | .go f e m => Q f e m
  | _ => False
section
variable {α β : Type} {env : Env} {m : Mm} {Q : Wd → Mm → Prop} {K : Env → Mm → Prop} {QS : Fl → Env → Mm → Prop}
theorem wpR_ok {a : α} {Q : α → Mm → Prop} : wpR (.ok a m) Q ↔ Q a m := Iff.rfl
theorem wpR_bind {r : Rs α} {k : α → Mm → Rs β} {Q : β → Mm → Prop} : wpR (r.bind k) Q ↔ wpR r fun a m => wpR (k a m) Q := by
  cases r <;> exact Iff.rfl
theorem wpR_of {r : Option (Wd × Mm)} : wpR (Rs.of r) Q ↔ wpO r Q := by
  rcases r with _ | ⟨w, m⟩ <;> exact Iff.rfl
theorem wpR_mono {r : Rs α} {P Q : α → Mm → Prop} (h : wpR r P) (i : ∀ a m, P a m → Q a m) : wpR r Q := by
  cases r with
  | ok a m => exact i a m h
  | exc _ _ => exact h.elim
  | stuck => exact h.elim
theorem wpO_mono {r : Option (Wd × Mm)} {P Q : Wd → Mm → Prop} (h : wpO r P) (i : ∀ a m, P a m → Q a m) : wpO r Q := by
  rcases r with _ | ⟨w, m⟩
  · exact h.elim
  · exact i w m h
theorem w_C {w : Wd} : wpR (eC w env m) Q ↔ Q w m := Iff.rfl
theorem w_V {i : Nat} : wpR (eV i env m) Q ↔ ∃ w, env[i]? = some (some w) ∧ Q w m := by
  unfold eV
  split
  · rename_i w h
    exact ⟨fun q => ⟨w, h, q⟩, fun ⟨w', h', q⟩ => by rw [h] at h'; cases h'; exact q⟩
  · rename_i h
    exact ⟨fun q => q.elim, fun ⟨w', h', q⟩ => (h w' h').elim⟩
theorem w_aN {Q : List Wd → Mm → Prop} : wpR (aN env m) Q ↔ Q [] m := Iff.rfl
theorem w_aC {f : Em Wd} {g : Em (List Wd)} {Q : List Wd → Mm → Prop} : wpR (aC f g env m) Q ↔ wpR (f env m) fun w m1 => wpR (g env m1) fun ws m2 => Q (w :: ws) m2 := by
  unfold aC; simp only [wpR_bind, wpR_ok]
theorem w_e2 {g : Op2} {fa fb : Em Wd} : wpR (e2 g fa fb env m) Q ↔ wpR (fa env m) fun a m1 => wpR (fb env m1) fun b m2 => wpO (g a b m2) Q := by
  unfold e2; simp only [wpR_bind, wpR_of]
theorem w_call {n : Nat} {F : Fn} {f : Em (List Wd)} : wpR (eCall n F f env m) Q ↔ wpR (f env m) fun ws m1 => ws.length = n ∧ wpR (F ws m1) Q := by
  unfold eCall
  rw [wpR_bind]
  constructor <;> refine fun h => wpR_mono h fun ws m1 h1 => ?_
  · by_cases e : ws.length = n
    · rw [if_pos e] at h1; exact ⟨e, h1⟩
    · rw [if_neg e] at h1; exact h1.elim
  · rw [if_pos h1.1]; exact h1.2
theorem w_b2 {g : Op2} {fa fb : Em Wd} {Q : Bool → Mm → Prop} : wpR (b2 g fa fb env m) Q ↔ wpR (fa env m) fun a m1 => wpR (fb env m1) fun b m2 => wpO (g a b m2) fun w m3 => ∃ k, w = .d (.bool k) ∧ Q k m3 := by
  unfold b2
  rw [wpR_bind, w_e2]
  have key : ∀ (w : Wd) (m : Mm), wpR (match asB w with | some b => Rs.ok b m | none => Rs.stuck) Q ↔ ∃ k, w = .d (.bool k) ∧ Q k m := fun w m => by
    cases q : asB w with
    | some b => rw [asB_ok q]; exact ⟨fun h => ⟨b, rfl, h⟩, fun ⟨k, e, h⟩ => by cases e; exact h⟩
    | none => exact ⟨fun h => h.elim, fun ⟨k, e, h⟩ => by subst e; cases q⟩
  constructor <;> exact fun h => wpR_mono h fun a m1 h => wpR_mono h fun b m2 h => wpO_mono h fun w m3 h => by first | exact (key w m3).mp h | exact (key w m3).mpr h
theorem w_bV {f : Em Wd} {Q : Bool → Mm → Prop} : wpR (bV f env m) Q ↔ wpR (f env m) fun w m1 => ∃ k, truO w m1 = some k ∧ Q k m1 := by
  unfold bV
  rw [wpR_bind]
  have key : ∀ (w : Wd) (m : Mm), wpR (match truO w m with | some b => Rs.ok b m | none => Rs.stuck) Q ↔ ∃ k, truO w m = some k ∧ Q k m := fun w m => by
    cases q : truO w m with
    | some b => exact ⟨fun h => ⟨b, rfl, h⟩, fun ⟨k, e, h⟩ => by cases e; exact h⟩
    | none => exact ⟨fun h => h.elim, fun ⟨k, e, h⟩ => by cases e⟩
  constructor <;> exact fun h => wpR_mono h fun w m1 h => by first | exact (key w m1).mp h | exact (key w m1).mpr h
theorem w_bAnd {f g : Em Bool} {Q : Bool → Mm → Prop} : wpR (bAnd f g env m) Q ↔ wpR (f env m) fun b m1 => if b = true then wpR (g env m1) Q else Q false m1 := by
  unfold bAnd
  rw [wpR_bind]
  constructor <;> refine fun h => wpR_mono h fun b m1 h => ?_ <;> (cases b <;> exact h)
theorem w_bOr {f g : Em Bool} {Q : Bool → Mm → Prop} : wpR (bOr f g env m) Q ↔ wpR (f env m) fun b m1 => if b = true then Q true m1 else wpR (g env m1) Q := by
  unfold bOr
  rw [wpR_bind]
  constructor <;> refine fun h => wpR_mono h fun b m1 h => ?_ <;> (cases b <;> exact h)
theorem w_bNot {f : Em Bool} {Q : Bool → Mm → Prop} : wpR (bNot f env m) Q ↔ wpR (f env m) fun b m1 => Q (!b) m1 := by
  unfold bNot
  rw [wpR_bind]; rfl
theorem w_bCh {g g' : Op2} {fa fb fc : Em Wd} {Q : Bool → Mm → Prop} : wpR (bCh g g' fa fb fc env m) Q ↔ wpR (eCh g g' fa fb fc env m) fun w m1 => ∃ k, w = .d (.bool k) ∧ Q k m1 := by
  unfold bCh
  rw [wpR_bind]
  have key : ∀ (w : Wd) (m : Mm), wpR (match asB w with | some b => Rs.ok b m | none => Rs.stuck) Q ↔ ∃ k, w = .d (.bool k) ∧ Q k m := fun w m => by
    cases q : asB w with
    | some b => rw [asB_ok q]; exact ⟨fun h => ⟨b, rfl, h⟩, fun ⟨k, e, h⟩ => by cases e; exact h⟩
    | none => exact ⟨fun h => h.elim, fun ⟨k, e, h⟩ => by subst e; cases q⟩
  constructor <;> exact fun h => wpR_mono h fun w m3 h => by first | exact (key w m3).mp h | exact (key w m3).mpr h
theorem w_oN {Q : Option Int → Mm → Prop} : wpR (oNone env m) Q ↔ Q none m := Iff.rfl
theorem w_oS {f : Em Wd} {Q : Option Int → Mm → Prop} : wpR (oSome f env m) Q ↔ wpR (f env m) fun w m1 => ∃ i, w = .d (.int i) ∧ Q (some i) m1 := by
  unfold oSome
  rw [wpR_bind]
  constructor <;> refine fun h => wpR_mono h fun w m1 h => ?_
  · split at h
    · rename_i i
      exact ⟨i, rfl, h⟩
    · exact h.elim
  · obtain ⟨i, e, h⟩ := h
    subst e; exact h
theorem wpS_rs {r : Rs α} {k : α → Mm → Sr} : wpS (rs r env k) K QS ↔ wpR r fun a m1 => wpS (k a m1) K QS := by
  cases r <;> exact Iff.rfl
theorem w_seq {f g : Sm} : wpS (sSeq f g env m) K QS ↔ wpS (f env m) (fun e m1 => wpS (g e m1) K QS) QS := by
  unfold sSeq
  cases f env m with
  | go fl e m1 => cases fl <;> exact Iff.rfl
  | exc _ _ _ => exact Iff.rfl
  | stuck => exact Iff.rfl
theorem w_nop : wpS (sNop env m) K QS ↔ K env m := Iff.rfl
theorem w_drop {f : Em Wd} : wpS (sDrop f env m) K QS ↔ wpR (f env m) fun _ m1 => K env m1 := by unfold sDrop; rw [wpS_rs]; rfl
theorem w_ret {f : Em Wd} : wpS (sRet f env m) K QS ↔ wpR (f env m) fun w m1 => QS (.rt w) env m1 := by unfold sRet; rw [wpS_rs]; rfl
theorem w_retN : wpS (sRetN env m) K QS ↔ QS (.rt (.d .none)) env m := Iff.rfl
theorem w_bk : wpS (sBk env m) K QS ↔ QS .bk env m := Iff.rfl
theorem w_ct : wpS (sCt env m) K QS ↔ QS .ct env m := Iff.rfl
theorem w_set {i : Nat} {f : Em Wd} : wpS (sSet i f env m) K QS ↔ wpR (f env m) fun w m1 => K (env.set i (some w)) m1 := by unfold sSet; rw [wpS_rs]; rfl
theorem w_asg {t : Tg} {f : Em Wd} : wpS (sAsg t f env m) K QS ↔ wpR (f env m) fun w m1 => ∃ e, t.put w env = some e ∧ K e m1 := by
  unfold sAsg
  rw [wpS_rs]
  constructor <;> refine fun h => wpR_mono h fun w m1 h => ?_
  · cases q : t.put w env with
    | some e => rw [q] at h; exact ⟨e, rfl, h⟩
    | none => rw [q] at h; exact h.elim
  · obtain ⟨e, q, h⟩ := h
    rw [q]; exact h
theorem w_par {is : List Nat} {f : Em (List Wd)} : wpS (sPar is f env m) K QS ↔ wpR (f env m) fun ws m1 => ∃ e, setsE is ws env = some e ∧ K e m1 := by
  unfold sPar
  rw [wpS_rs]
  constructor <;> refine fun h => wpR_mono h fun w m1 h => ?_
  · cases q : setsE is w env with
    | some e => rw [q] at h; exact ⟨e, rfl, h⟩
    | none => rw [q] at h; exact h.elim
  · obtain ⟨e, q, h⟩ := h
    rw [q]; exact h
theorem w_aug {i : Nat} {g : Op2} {f : Em Wd} : wpS (sAug i g f env m) K QS ↔ ∃ x, env[i]? = some (some x) ∧ wpR (f env m) fun y m1 => wpO (g x y m1) fun z m2 => K (env.set i (some z)) m2 := by
  unfold sAug
  split
  · rename_i x h
    simp only [wpS_rs, wpR_of]
    exact ⟨fun q => ⟨x, h, q⟩, fun ⟨x', e, q⟩ => by rw [h] at e; cases e; exact q⟩
  · rename_i h
    exact ⟨fun q => q.elim, fun ⟨x', e, q⟩ => (h x' e).elim⟩
end
end DL
set_option Elab.async false
set_option linter.all false
set_option maxRecDepth 100000
set_option maxHeartbeats 2000000
namespace DL
open PySem PySem.Spec PyProof.Rows L2
def Has (m : Mm) (n : Nat) (c : Cell) : Prop := m.cells[n]? = some c
/-- what stood before stands, but for the cells in S -/
structure Fr (S : List Nat) (m m' : Mm) : Prop where
  le : m.cells.length ≤ m'.cells.length
  eq : ∀ j, j < m.cells.length → j ∉ S → m'.cells[j]? = m.cells[j]?
/-- behind a scope's end -/
structure Cl (n0 : Nat) (held : Bool) (m m' : Mm) : Prop where
  le : n0 ≤ m.cells.length → n0 ≤ m'.cells.length
  eq : ∀ j, j < n0 → m'.cells[j]? = m.cells[j]?
  same : held = false → m'.cells = m.cells
section
variable {m m' m1 m2 : Mm} {S S' : List Nat} {n k : Nat} {c c' : Cell}
theorem Has.lt (h : Has m n c) : n < m.cells.length := (List.getElem?_eq_some_iff.mp h).1
theorem Has.inj (h : Has m n c) (h' : Has m n c') : c = c' := Option.some.inj (h.symm.trans h')
theorem Fr.refl : Fr S m m := ⟨Nat.le_refl _, fun _ _ _ => rfl⟩
theorem Fr.trans (a : Fr S m m1) (b : Fr S m1 m2) : Fr S m m2 := ⟨Nat.le_trans a.le b.le, fun j h n => (b.eq j (Nat.lt_of_lt_of_le h a.le) n).trans (a.eq j h n)⟩
theorem Fr.sub (a : Fr S m m') (h : ∀ j ∈ S, j ∈ S' ∨ m.cells.length ≤ j) : Fr S' m m' := ⟨a.le, fun j hj n => a.eq j hj fun x => by rcases h j x with q | q; exact n q; omega⟩
theorem Fr.any (a : Fr [] m m') : Fr S m m' := ⟨a.le, fun j hj _ => a.eq j hj (by simp)⟩
theorem Fr.has (a : Fr S m m') (h : Has m n c) (hn : n ∉ S := by simp) : Has m' n c := (a.eq n h.lt hn).trans h
theorem fr_push : Fr S m (m.push c) := ⟨by simp [Mm.push], fun j hj _ => by show (m.cells ++ [c])[j]? = _; rw [List.getElem?_append_left hj]⟩
theorem has_push : Has (m.push c) m.cells.length c := by show (m.cells ++ [c])[_]? = _; rw [List.getElem?_append_right (Nat.le_refl _)]; simp
theorem Has.push (h : Has m n c) : Has (m.push c') n c := (fr_push (S := [])).has h
theorem has_put {p : Bool} (h : n < m.cells.length) : Has (m.put n c p) n c := by show (m.cells.set n c)[n]? = _; rw [List.getElem?_set_self h]
theorem Has.put {p : Bool} (h : Has m n c) (hn : k ≠ n) : Has (m.put k c' p) n c := by show (m.cells.set k c')[n]? = _; rw [List.getElem?_set_ne hn]; exact h
theorem cl_close {n0 : Nat} {b : Bool} : Cl n0 b m (m.closeS n0 b) := by
  unfold Mm.closeS
  split
  · exact ⟨fun h => h, fun _ _ => rfl, fun _ => rfl⟩
  · rename_i b0 ds r e
    split
    · rename_i h
      simp only [Bool.and_eq_true, decide_eq_true_eq] at h
      refine ⟨fun h2 => by simp; omega, fun j hj => ?_, fun hb => ?_⟩
      · show (m.cells.take n0)[j]? = _
        rw [List.getElem?_take_of_lt hj]
      · rw [hb] at h
        exact absurd h.1.2 (by decide)
    · exact ⟨fun h => h, fun _ _ => rfl, fun _ => rfl⟩
end
section
variable {env : Env} {m : Mm} {Q : Wd → Mm → Prop} {K : Env → Mm → Prop} {QS : Fl → Env → Mm → Prop}
theorem w_run {n : Nat} {b : Sm} {ws : List Wd} (h : wpS (b (startE n ws) m.openS) (fun _ m1 => ∀ m2, Cl m.cells.length true m1 m2 → Q (.d .none) m2) (fun f _ m1 => ∃ w, f = .rt w ∧ ∀ m2, Cl m.cells.length (w.lt m.cells.length) m1 m2 → Q w m2)) : wpR (runF n b ws m) Q := by
  unfold runF
  cases q : b (startE n ws) m.openS with
  | go f e m1 =>
    rw [q] at h
    cases f with
    | nx => exact h _ cl_close
    | rt w => obtain ⟨w', e', h⟩ := h; cases e'; exact h _ cl_close
    | bk => obtain ⟨w', e', h⟩ := h; cases e'
    | ct => obtain ⟨w', e', h⟩ := h; cases e'
  | exc _ _ _ => rw [q] at h; exact h.elim
  | stuck => rw [q] at h; exact h.elim
/-- a loop's other ends -/
def brk (K : Env → Mm → Prop) (C : Env → Mm → Prop) (QS : Fl → Env → Mm → Prop) : Fl → Env → Mm → Prop
  | .ct => C
  | .bk => K
  | f => QS f
theorem w_while {c : Em Bool} {b : Sm} (I : Nat → Env → Mm → Prop) (hs : ∀ k e m, I k e m → wpR (c e m) fun t m1 => if t = true then wpS (b e m1) (fun e' m' => ∃ k', k' < k ∧ I k' e' m') (brk K (fun e' m' => ∃ k', k' < k ∧ I k' e' m') QS) else K e m1) :
    ∀ (k : Nat) (env : Env) (m : Mm), I k env m → wpS (sWh c b env m) K QS := by
  intro k
  induction k using Nat.strongRecOn with
  | _ k ih =>
    intro env m h0
    rw [sWh_unf, wpS_rs]
    refine wpR_mono (hs k env m h0) fun t m1 h => ?_
    cases t with
    | false => exact h
    | true =>
      rw [if_pos rfl] at h ⊢
      cases q : b env m1 with
      | go f e m2 =>
        rw [q] at h
        cases f with
        | nx => obtain ⟨k', hk, h⟩ := h; exact ih k' hk e m2 h
        | ct => obtain ⟨k', hk, h⟩ := h; exact ih k' hk e m2 h
        | bk => exact h
        | rt w => exact h
      | exc _ _ _ => rw [q] at h; exact h.elim
      | stuck => rw [q] at h; exact h.elim
theorem w_for {s : Em (List Wd × Gd)} {t : Tg} {b : Sm} : wpS (sFor s t b env m) K QS ↔ wpR (s env m) fun p m1 => wpS (forL t b p.2 p.1 env m1) K QS := by unfold sFor; rw [wpS_rs]
theorem w_forL {t : Tg} {b : Sm} {gd : Gd} (I : Nat → Env → Mm → Prop) (xs : List Wd) (hg : ∀ k e m, I k e m → gdOk gd m = true) (hs : ∀ k e m w, xs[k]? = some w → I k e m → ∃ e', t.put w e = some e' ∧ wpS (b e' m) (I (k + 1)) (brk K (I (k + 1)) QS)) (hd : ∀ e m, I xs.length e m → K e m) :
    ∀ (ys : List Wd) (k : Nat) (env : Env) (m : Mm), xs.drop k = ys → k + ys.length = xs.length → I k env m → wpS (forL t b gd ys env m) K QS
  | [], k, env, m, e, hl, h => by
    unfold forL
    rw [if_pos (hg k env m h)]
    have : k = xs.length := by simpa using hl
    subst this
    exact hd env m h
  | w :: ys, k, env, m, e, hl, h => by
    unfold forL
    rw [if_pos (hg k env m h)]
    have hw : xs[k]? = some w := by
      have : (xs.drop k)[0]? = some w := by rw [e]; rfl
      rwa [List.getElem?_drop, Nat.add_zero] at this
    have e2 : xs.drop (k + 1) = ys := by rw [← List.drop_drop, e]; rfl
    obtain ⟨e', q, hb⟩ := hs k env m w hw h
    rw [q]
    simp only []
    have ih := fun env m h => w_forL I xs hg hs hd ys (k + 1) env m e2 (by simp at hl; omega) h
    cases qb : b e' m with
    | go f e3 m3 =>
      rw [qb] at hb
      cases f with
      | nx => exact ih e3 m3 hb
      | ct => exact ih e3 m3 hb
      | bk => exact hb
      | rt w => exact hb
    | exc _ _ _ => rw [qb] at hb; exact hb.elim
    | stuck => rw [qb] at hb; exact hb.elim
theorem w_for0 {t : Tg} {b : Sm} {gd : Gd} (I : Nat → Env → Mm → Prop) {xs : List Wd} (h0 : I 0 env m) (hg : ∀ k e m, I k e m → gdOk gd m = true) (hs : ∀ k e m w, xs[k]? = some w → I k e m → ∃ e', t.put w e = some e' ∧ wpS (b e' m) (I (k + 1)) (brk K (I (k + 1)) QS)) (hd : ∀ e m, I xs.length e m → K e m) :
    wpS (forL t b gd xs env m) K QS := w_forL I xs hg hs hd xs 0 env m (by simp) (by simp) h0
end
end DL
set_option Elab.async false
set_option linter.all false
set_option maxRecDepth 100000
set_option maxHeartbeats 2000000
namespace DL
open PySem PySem.Spec PyProof.Rows L2
section
variable {m : Mm} {Q : Wd → Mm → Prop} {a b : Int} {n : Nat} {xs ys : List Wd}
theorem s_ref (h : Has m n (.lst xs)) : seqOf m (.ref n) = some xs := by
  show (match m.cells[n]? with | some (.lst xs) => some xs | _ => none) = some xs
  rw [show m.cells[n]? = some (.lst xs) from h]
theorem at_0 {α : Type} {x : α} {r : List α} : atI (x :: r) 0 = some x := by
  unfold atI ixN; simp
theorem at_nat {α : Type} {r : List α} {k : Nat} (h : k < r.length) : atI r (k : Int) = r[k]? := by
  unfold atI ixN
  rw [if_pos (by omega), if_pos (by omega)]
  simp
theorem at_1 {α : Type} {x y : α} {r : List α} : atI (x :: y :: r) 1 = some y := at_nat (k := 1) (by simp)
theorem at_2 {α : Type} {x y z : α} {r : List α} : atI (x :: y :: z :: r) 2 = some z := at_nat (k := 2) (by simp)
theorem at_3 {α : Type} {x y z u : α} {r : List α} : atI (x :: y :: z :: u :: r) 3 = some u := at_nat (k := 3) (by simp)
end
end DL
set_option Elab.async false
set_option linter.all false
set_option maxRecDepth 100000
set_option maxHeartbeats 2000000
namespace DL
open PySem PySem.Spec PyProof.Rows L2
mutual
def okD : PyData → Bool
  | .none => true | .bool _ => true | .int _ => true | .str _ => true
  | .tuple ds => okDs ds
  | _ => false
def okDs : List PyData → Bool
  | [] => true
  | x :: r => okD x && okDs r
end
mutual
def psz : PyData → Nat
  | .tuple ds => pszs ds + 1
  | .list ds => pszs ds + 1
  | _ => 1
def pszs : List PyData → Nat
  | [] => 0
  | x :: r => psz x + pszs r
end
mutual
inductive Rd (m : Mm) : Wd → PyData → Prop
  | d {x : PyData} : okD x = true → Rd m (.d x) x
  | tup {ws : List Wd} {ds : List PyData} : Rds m ws ds → Rd m (.tup ws) (.tuple ds)
  | ref {n : Nat} {ws : List Wd} {ds : List PyData} : Has m n (.lst ws) → Rds m ws ds → Rd m (.ref n) (.list ds)
  | rol {ws : List Wd} {ds : List PyData} : Rds m ws ds → Rd m (.rol ws) (.list ds)
inductive Rds (m : Mm) : List Wd → List PyData → Prop
  | nil : Rds m [] []
  | cons {w : Wd} {ws : List Wd} {x : PyData} {xs : List PyData} : Rd m w x → Rds m ws xs → Rds m (w :: ws) (x :: xs)
end
section
variable {m m' : Mm}
mutual
theorem Rd.fr (f : Fr [] m m') : ∀ {w : Wd} {x : PyData}, Rd m w x → Rd m' w x
  | _, _, .d h => .d h
  | _, _, .tup h => .tup (Rds.fr f h)
  | _, _, .ref h hs => .ref (f.has h) (Rds.fr f hs)
  | _, _, .rol h => .rol (Rds.fr f h)
theorem Rds.fr (f : Fr [] m m') : ∀ {w : List Wd} {x : List PyData}, Rds m w x → Rds m' w x
  | _, _, .nil => .nil
  | _, _, .cons h hs => .cons (Rd.fr f h) (Rds.fr f hs)
end
theorem Rds.length : ∀ {ws : List Wd} {ds : List PyData}, Rds m ws ds → ws.length = ds.length
  | _, _, .nil => rfl
  | _, _, .cons _ h => congrArg (· + 1) (Rds.length h)
theorem psz_pos (x : PyData) : 1 ≤ psz x := by cases x <;> simp [psz]
theorem pszs_append : ∀ xs ys : List PyData, pszs (xs ++ ys) = pszs xs + pszs ys
  | [], ys => by simp [pszs]
  | x :: xs, ys => by simp [pszs, pszs_append xs ys]; omega
theorem pszs_len : ∀ xs : List PyData, xs.length ≤ pszs xs
  | [] => Nat.le_refl _
  | x :: xs => by have := pszs_len xs; have := psz_pos x; simp [pszs]; omega
def tyD : PyData → String
  | .none => "NoneType" | .bool _ => "bool" | .int _ => "int" | .str _ => "str" | .tuple _ => "tuple" | .list _ => "list" | .dict _ => "dict"
end
end DL
set_option Elab.async false
set_option linter.all false
set_option maxRecDepth 100000
set_option maxHeartbeats 2000000
namespace DL
open PySem PySem.Spec PyProof.Rows L2
section
variable {env : DL.Env} {m : Mm} {Q : Wd → Mm → Prop}
/-- what flat sequences read at 64 -/
theorem toP_d {k : Nat} {x : PyData} : toP m k (.d x) = some x := by cases k <;> rfl
end
section
variable {m : Mm} {Q : Wd → Mm → Prop}
theorem cut_to (xs : List Wd) (k : Nat) : cutW xs none (some (k : Int)) = xs.take k := by
  unfold cutW
  rw [show HT.sIx xs.length 0 none = 0 from rfl, HT.sIx_nat, List.drop_zero, Nat.sub_zero]
  by_cases h : k ≤ xs.length
  · rw [Nat.min_eq_left h]
  · rw [Nat.min_eq_right (by omega), List.take_length, List.take_of_length_le (by omega)]
theorem tupOf_seq {w : Wd} {xs : List Wd} (h : tupOf w = some xs) : seqOf m w = some xs := by
  cases w with
  | d x =>
    cases x with
    | tuple ds => exact h
    | _ => cases h
  | tup ys => exact h
  | _ => cases h
end
def dd {α : Type} [DecidableEq α] (l : List α) : List α := l.foldl (fun acc s => if s ∈ acc then acc else acc ++ [s]) []
end DL
set_option Elab.async false
set_option linter.all false
set_option maxRecDepth 100000
set_option maxHeartbeats 2000000
namespace PD
open PySem PySem.Spec PyProof.Rows L2 DL
/-- keys that are ints and texts; that are tuples -/
inductive Kt where
  | f | t | g
def kd : Kt → PyData → Bool
  | .f, k => (keyOf k).isSome
  | .t, k => (nkT k).isSome
  | .g, k => (nkG k).isSome
mutual
theorem nk_ok : ∀ {d : PyData} {k : NestedKey}, nkOf d = some k → okD d = true
  | .none, _, _ => rfl
  | .int _, _, _ => rfl
  | .str _, _, _ => rfl
  | .bool _, _, _ => rfl
  | .tuple ds, k, e => by
    have e' : (match nksOf ds with
      | some ks => some (NestedKey.tup ks)
      | none => none) = some k := e
    cases q : nksOf ds with
    | none => rw [q] at e'; cases e'
    | some ks => exact nks_ok (ds := ds) q
  | .list _, _, e => by cases e
  | .dict _, _, e => by cases e
theorem nks_ok : ∀ {ds : List PyData} {ks : List NestedKey}, nksOf ds = some ks → okDs ds = true
  | [], _, _ => rfl
  | d :: ds, ks, e => by
    have e' : (match nkOf d, nksOf ds with
      | some k, some ks => some (k :: ks)
      | _, _ => none) = some ks := e
    show (okD d && okDs ds) = true
    cases q1 : nkOf d with
    | none => rw [q1] at e'; cases e'
    | some k =>
      cases q2 : nksOf ds with
      | none => rw [q1, q2] at e'; cases e'
      | some l => rw [nk_ok q1, nks_ok q2]; rfl
end
theorem kd_ok {b : Kt} {k : PyData} (h : kd b k = true) : okD k = true := by
  cases b with
  | f => cases k <;> first | rfl | cases h
  | t =>
    cases k with
    | tuple ds =>
      have h' : (match nksOf ds with
        | some ks => if NestedKey.depthAll ks ≤ 7 then some (NestedKey.tup ks) else none
        | none => none).isSome = true := h
      cases q : nksOf ds with
      | none => rw [q] at h'; cases h'
      | some ks => exact nks_ok q
    | _ => cases h
  | g =>
    have h' : (match nkOf k with
      | some z => if z.depth ≤ 8 then some z else none
      | none => none).isSome = true := h
    cases q : nkOf k with
    | none => rw [q] at h'; cases h'
    | some z => exact nk_ok q
/-- the mark of a dict with keys of any kind -/
def gmk : PyData × PyData := (.bool true, .none)
/-- an object of an own class that never changes again, as data -/
def insD (c : Str) (fs : List (Str × PyData)) : PyData := .dict ((.bool false, .str c) :: fs.map fun p => (.str p.1, p.2))
mutual
/-- w reads x in m, and looks at no cell of A -/
inductive RdA (m : Mm) (A : List Nat) : Wd → PyData → Prop
  | d {x : PyData} : okD x = true → RdA m A (.d x) x
  | tup {ws : List Wd} {ds : List PyData} : RdsA m A ws ds → RdA m A (.tup ws) (.tuple ds)
  | lst {n : Nat} {ws : List Wd} {ds : List PyData} : Has m n (.lst ws) → n ∉ A → RdsA m A ws ds → RdA m A (.ref n) (.list ds)
  | dct {n : Nat} {ws : List (PyData × Wd)} {ds : List (PyData × PyData)} : Has m n (.dct ws) → n ∉ A → RdkA m A .f ws ds → RdA m A (.ref n) (.dict ds)
  | ndc {n : Nat} {ws : List (PyData × Wd)} {ds : List (PyData × PyData)} : Has m n (.ndc ws) → n ∉ A → RdkA m A .t ws ds → ds ≠ [] → RdA m A (.ref n) (.dict ds)
  | gdc {n : Nat} {ws : List (PyData × Wd)} {ds : List (PyData × PyData)} : Has m n (.gdc ws) → n ∉ A → RdkA m A .g ws ds → RdA m A (.ref n) (.dict (gmk :: ds))
  | ins {n : Nat} {c : Str} {ws : List (Str × Wd)} {ds : List (Str × PyData)} : Has m n (.ins c ws) → n ∉ A → RdiA m A ws ds → RdA m A (.ref n) (insD c ds)
inductive RdsA (m : Mm) (A : List Nat) : List Wd → List PyData → Prop
  | nil : RdsA m A [] []
  | cons {w : Wd} {ws : List Wd} {x : PyData} {xs : List PyData} : RdA m A w x → RdsA m A ws xs → RdsA m A (w :: ws) (x :: xs)
inductive RdkA (m : Mm) (A : List Nat) : Kt → List (PyData × Wd) → List (PyData × PyData) → Prop
  | nil {b : Kt} : RdkA m A b [] []
  | cons {b : Kt} {k : PyData} {w : Wd} {ws : List (PyData × Wd)} {x : PyData} {xs : List (PyData × PyData)} : kd b k = true → RdA m A w x → RdkA m A b ws xs → RdkA m A b ((k, w) :: ws) ((k, x) :: xs)
inductive RdiA (m : Mm) (A : List Nat) : List (Str × Wd) → List (Str × PyData) → Prop
  | nil : RdiA m A [] []
  | cons {f : Str} {w : Wd} {ws : List (Str × Wd)} {x : PyData} {xs : List (Str × PyData)} : RdA m A w x → RdiA m A ws xs → RdiA m A ((f, w) :: ws) ((f, x) :: xs)
end
inductive Co where
  | l (xs : List PyData) | k (kvs : List (PyData × PyData)) | n (kvs : List (PyData × PyData)) | g (kvs : List (PyData × PyData))
def Co.toD : Co → PyData
  | .l xs => .list xs
  | .k kvs => .dict kvs
  | .n kvs => .dict kvs
  | .g kvs => .dict (gmk :: kvs)
def RdC (m : Mm) (A : List Nat) : Cell → Co → Prop
  | .lst ws, .l xs => RdsA m A ws xs
  | .dct ws, .k xs => RdkA m A .f ws xs
  | .ndc ws, .n xs => RdkA m A .t ws xs ∧ xs ≠ []
  | .gdc ws, .g xs => RdkA m A .g ws xs
  | _, _ => False
section
variable {m m' : Mm} {A A' : List Nat} {k n n0 : Nat}
mutual
theorem RdA.mv (h1 : ∀ k c, Has m k c → k ∉ A → Has m' k c ∧ k ∉ A') : ∀ {w : Wd} {x : PyData}, RdA m A w x → RdA m' A' w x
  | _, _, .d h => .d h
  | _, _, .tup h => .tup (RdsA.mv h1 h)
  | _, _, .lst h hn hs => .lst (h1 _ _ h hn).1 (h1 _ _ h hn).2 (RdsA.mv h1 hs)
  | _, _, .dct h hn hs => .dct (h1 _ _ h hn).1 (h1 _ _ h hn).2 (RdkA.mv h1 hs)
  | _, _, .ndc h hn hs hne => .ndc (h1 _ _ h hn).1 (h1 _ _ h hn).2 (RdkA.mv h1 hs) hne
  | _, _, .gdc h hn hs => .gdc (h1 _ _ h hn).1 (h1 _ _ h hn).2 (RdkA.mv h1 hs)
  | _, _, .ins h hn hs => .ins (h1 _ _ h hn).1 (h1 _ _ h hn).2 (RdiA.mv h1 hs)
theorem RdsA.mv (h1 : ∀ k c, Has m k c → k ∉ A → Has m' k c ∧ k ∉ A') : ∀ {w : List Wd} {x : List PyData}, RdsA m A w x → RdsA m' A' w x
  | _, _, .nil => .nil
  | _, _, .cons h hs => .cons (RdA.mv h1 h) (RdsA.mv h1 hs)
theorem RdkA.mv (h1 : ∀ k c, Has m k c → k ∉ A → Has m' k c ∧ k ∉ A') : ∀ {b : Kt} {w : List (PyData × Wd)} {x : List (PyData × PyData)}, RdkA m A b w x → RdkA m' A' b w x
  | _, _, _, .nil => .nil
  | _, _, _, .cons hk h hs => .cons hk (RdA.mv h1 h) (RdkA.mv h1 hs)
theorem RdiA.mv (h1 : ∀ k c, Has m k c → k ∉ A → Has m' k c ∧ k ∉ A') : ∀ {w : List (Str × Wd)} {x : List (Str × PyData)}, RdiA m A w x → RdiA m' A' w x
  | _, _, .nil => .nil
  | _, _, .cons h hs => .cons (RdA.mv h1 h) (RdiA.mv h1 hs)
end
theorem RdC.mv (h1 : ∀ k c, Has m k c → k ∉ A → Has m' k c ∧ k ∉ A') {cl : Cell} {c : Co} (h : RdC m A cl c) : RdC m' A' cl c := by
  cases cl with
  | lst ws => cases c with
    | l xs => exact RdsA.mv h1 h
    | _ => exact h.elim
  | dct ws => cases c with
    | k xs => exact RdkA.mv h1 h
    | _ => exact h.elim
  | ndc ws => cases c with
    | n xs => exact ⟨RdkA.mv h1 h.1, h.2⟩
    | _ => exact h.elim
  | gdc ws => cases c with
    | g xs => exact RdkA.mv h1 h
    | _ => exact h.elim
  | ins _ _ => exact h.elim
  | tab _ _ => exact h.elim
theorem RdA.of {n : Nat} {cl : Cell} {c : Co} (h : Has m n cl) (hn : n ∉ A) (r : RdC m A cl c) : RdA m A (.ref n) c.toD := by
  cases cl with
  | lst ws => cases c with
    | l xs => exact .lst h hn r
    | _ => exact r.elim
  | dct ws => cases c with
    | k xs => exact .dct h hn r
    | _ => exact r.elim
  | ndc ws => cases c with
    | n xs => exact .ndc h hn r.1 r.2
    | _ => exact r.elim
  | gdc ws => cases c with
    | g xs => exact .gdc h hn r
    | _ => exact r.elim
  | ins _ _ => exact r.elim
  | tab _ _ => exact r.elim
theorem RdsA.length : ∀ {ws : List Wd} {ds : List PyData}, RdsA m A ws ds → ws.length = ds.length
  | _, _, .nil => rfl
  | _, _, .cons _ h => congrArg (· + 1) (RdsA.length h)
theorem RdkA.length : ∀ {b : Kt} {ws : List (PyData × Wd)} {ds : List (PyData × PyData)}, RdkA m A b ws ds → ws.length = ds.length
  | _, _, _, .nil => rfl
  | _, _, _, .cons _ _ h => congrArg (· + 1) (RdkA.length h)
theorem RdsA.get : ∀ {ws : List Wd} {ds : List PyData} {i : Nat} {x : PyData}, RdsA m A ws ds → ds[i]? = some x → ∃ w, ws[i]? = some w ∧ RdA m A w x
  | _, _, i, x, .nil, e => by simp at e
  | _, _, 0, x, .cons h _, e => by simp at e; subst e; exact ⟨_, rfl, h⟩
  | _, _, i + 1, x, .cons _ h, e => by
    obtain ⟨v, e1, r⟩ := RdsA.get (i := i) (x := x) h (by simpa using e)
    exact ⟨v, by simpa using e1, r⟩
theorem RdsA.append : ∀ {ws ws' : List Wd} {vs vs' : List PyData}, RdsA m A ws vs → RdsA m A ws' vs' → RdsA m A (ws ++ ws') (vs ++ vs')
  | _, _, _, _, .nil, h => h
  | _, _, _, _, .cons h hs, h' => .cons h (RdsA.append hs h')
theorem RdsA.take : ∀ {ws : List Wd} {vs : List PyData} (n : Nat), RdsA m A ws vs → RdsA m A (ws.take n) (vs.take n)
  | _, _, 0, _ => .nil
  | _, _, _ + 1, .nil => .nil
  | _, _, n + 1, .cons h hs => .cons h (RdsA.take n hs)
theorem RdsA.drop : ∀ {ws : List Wd} {vs : List PyData} (n : Nat), RdsA m A ws vs → RdsA m A (ws.drop n) (vs.drop n)
  | _, _, 0, h => h
  | _, _, _ + 1, .nil => .nil
  | _, _, n + 1, .cons h hs => RdsA.drop n hs
theorem RdsA.set {w : Wd} {v : PyData} (r : RdA m A w v) : ∀ {ws : List Wd} {vs : List PyData} (n : Nat), RdsA m A ws vs → RdsA m A (ws.set n w) (vs.set n v)
  | _, _, _, .nil => .nil
  | _, _, 0, .cons h hs => .cons r hs
  | _, _, n + 1, .cons h hs => .cons h (RdsA.set r n hs)
theorem rdsA_d : ∀ {ds : List PyData}, okDs ds = true → RdsA m A (ds.map .d) ds
  | [], _ => .nil
  | x :: r, h => by
    have h' : (okD x && okDs r) = true := h
    rw [Bool.and_eq_true] at h'
    exact .cons (.d h'.1) (rdsA_d h'.2)
theorem rdsA_of_d : ∀ (ds : List PyData) {es : List PyData}, RdsA m A (ds.map .d) es → es = ds ∧ okDs ds = true := by
  intro ds
  induction ds with
  | nil => intro es h; cases h; exact ⟨rfl, rfl⟩
  | cons x r ih =>
    intro es h
    cases h with
    | cons h hs =>
      obtain ⟨e, h2⟩ := ih hs
      cases h with
      | d h => exact ⟨by rw [e], by show (okD x && okDs r) = true; rw [h, h2]; rfl⟩
theorem rdA_tup {ws : List Wd} {ds : List PyData} (h : RdsA m A ws ds) : RdA m A (mkTup ws) (.tuple ds) := by
  unfold mkTup
  cases q : allD ws with
  | none => exact .tup h
  | some es =>
    rw [allD_eq q] at h
    obtain ⟨e, h2⟩ := rdsA_of_d _ h
    subst e
    exact .d h2
/-- what reads data that has no list in it -/
theorem RdA.flat {w : Wd} {x : PyData} (h : RdA m A w x) (hx : flatD x = true) : w = .d x := by
  cases h with
  | d _ => rfl
  | _ => cases hx
theorem RdA.tupI {w : Wd} {ds : List PyData} (h : RdA m A w (.tuple ds)) : ∃ ws, tupOf w = some ws ∧ RdsA m A ws ds := by
  cases h with
  | d h => exact ⟨_, rfl, rdsA_d h⟩
  | tup h => exact ⟨_, rfl, h⟩
theorem RdA.lstI {w : Wd} {ds : List PyData} (h : RdA m A w (.list ds)) : ∃ n ws, w = .ref n ∧ Has m n (.lst ws) ∧ n ∉ A ∧ RdsA m A ws ds := by
  cases h with
  | d h => cases h
  | lst h hn hs => exact ⟨_, _, rfl, h, hn, hs⟩
mutual
theorem Wd.lt_mono {a b : Nat} (h : a ≤ b) : ∀ {w : Wd}, w.lt a = true → w.lt b = true
  | .d _, _ => rfl
  | .ref n, e => decide_eq_true (Nat.lt_of_lt_of_le (of_decide_eq_true e) h)
  | .tup xs, e => Wd.ltAll_mono h e
  | .rol xs, e => Wd.ltAll_mono h e
  | .v _, _ => rfl
theorem Wd.ltAll_mono {a b : Nat} (h : a ≤ b) : ∀ {w : List Wd}, Wd.ltAll a w = true → Wd.ltAll b w = true
  | [], _ => rfl
  | x :: xs, e => by
    have e' : (Wd.lt a x && Wd.ltAll a xs) = true := e
    rw [Bool.and_eq_true] at e'
    show (Wd.lt b x && Wd.ltAll b xs) = true
    rw [Wd.lt_mono h e'.1, Wd.ltAll_mono h e'.2]; rfl
end
theorem Cell.lt_mono {a b : Nat} (h : a ≤ b) {c : Cell} (e : c.lt a = true) : c.lt b = true := by
  cases c with
  | lst xs => exact Wd.ltAll_mono h e
  | dct xs => exact Wd.ltAll_mono h e
  | ndc xs => exact Wd.ltAll_mono h e
  | gdc xs => exact Wd.ltAll_mono h e
  | ins _ xs => exact Wd.ltAll_mono h e
  | tab _ _ => rfl
theorem ltAll_iff {a : Nat} : ∀ {ws : List Wd}, Wd.ltAll a ws = true ↔ ∀ w ∈ ws, w.lt a = true
  | [] => ⟨fun _ _ h => absurd h (by simp), fun _ => rfl⟩
  | x :: xs => by
    show (Wd.lt a x && Wd.ltAll a xs) = true ↔ _
    rw [Bool.and_eq_true, ltAll_iff]
    simp
structure WF (m : Mm) : Prop where
  lt : ∀ k c, Has m k c → c.lt m.cells.length = true
  top : ∀ p ∈ m.stk, p.1 ≤ m.cells.length
  ord : (m.stk.map (·.1)).Pairwise (fun x y => y ≤ x)
  clean : ∀ p ∈ m.stk, ∀ (n : Nat) c, n < p.1 → n ∉ p.2 → Has m n c → c.lt p.1 = true
theorem push_len (c : Cell) : (m.push c).cells.length = m.cells.length + 1 := by simp [Mm.push]
theorem put_len (c : Cell) (p : Bool) : (m.put n c p).cells.length = m.cells.length := by simp [Mm.put]
theorem has_push_inv {c c' : Cell} (h : Has (m.push c) k c') : Has m k c' ∨ (k = m.cells.length ∧ c' = c) := by
  by_cases hk : k < m.cells.length
  · have h' : (m.cells ++ [c])[k]? = some c' := h
    rw [List.getElem?_append_left hk] at h'
    exact .inl h'
  · have hl := h.lt
    rw [push_len] at hl
    have e : k = m.cells.length := by omega
    subst e
    exact .inr ⟨rfl, (h.inj has_push)⟩
theorem has_put_inv {c c' : Cell} {p : Bool} (hn : n < m.cells.length) (h : Has (m.put n c p) k c') : (k ≠ n ∧ Has m k c') ∨ (k = n ∧ c' = c) := by
  by_cases hk : k = n
  · subst hk
    exact .inr ⟨rfl, h.inj (has_put hn)⟩
  · refine .inl ⟨hk, ?_⟩
    have h' : (m.cells.set n c)[k]? = some c' := h
    rwa [List.getElem?_set_ne (Ne.symm hk)] at h'
theorem WF.push (w : WF m) {c : Cell} (hc : c.lt m.cells.length = true) : WF (m.push c) := by
  refine ⟨fun k c' h => ?_, fun p hp => ?_, w.ord, fun p hp k c' hk hd h => ?_⟩
  · rw [push_len]
    rcases has_push_inv h with h | ⟨_, e⟩
    · exact Cell.lt_mono (Nat.le_succ _) (w.lt k c' h)
    · rw [e]; exact Cell.lt_mono (Nat.le_succ _) hc
  · rw [push_len]
    exact Nat.le_succ_of_le (w.top p hp)
  · rcases has_push_inv h with h | ⟨e, _⟩
    · exact w.clean p hp k c' hk hd h
    · have := w.top p hp
      omega
theorem WF.put (w : WF m) {c c0 : Cell} {pure : Bool} (h0 : Has m n c0) (hc : c.lt m.cells.length = true) (hp : pure = true → ∀ b, c0.lt b = true → c.lt b = true) : WF (m.put n c pure) := by
  have stk : ∀ q ∈ (m.put n c pure).stk, ∃ q0 ∈ m.stk, q.1 = q0.1 ∧ ∀ x, x ∉ q.2 → x ∉ q0.2 ∧ (x = n → pure = true) := fun q hq => by
    have hq' : q ∈ (if pure then m.stk else m.stk.map fun p => (p.1, n :: p.2)) := hq
    cases pure with
    | true => exact ⟨q, hq', rfl, fun x hx => ⟨hx, fun _ => rfl⟩⟩
    | false =>
      obtain ⟨q0, h0, e⟩ := List.mem_map.mp hq'
      subst e
      exact ⟨q0, h0, rfl, fun x hx => ⟨fun z => hx (List.mem_cons_of_mem _ z), fun e => absurd (by rw [e]; exact List.mem_cons_self) hx⟩⟩
  refine ⟨fun k c' h => ?_, fun q hq => ?_, ?_, fun q hq k c' hk hd h => ?_⟩
  · rw [put_len]
    rcases has_put_inv h0.lt h with ⟨_, h⟩ | ⟨_, e⟩
    · exact w.lt k c' h
    · rw [e]; exact hc
  · obtain ⟨q0, h1, e, _⟩ := stk q hq
    rw [put_len, e]
    exact w.top q0 h1
  · show ((if pure then m.stk else m.stk.map fun p => (p.1, n :: p.2)).map (·.1)).Pairwise _
    cases pure with
    | true => exact w.ord
    | false =>
      rw [if_neg (by decide), List.map_map]
      exact w.ord
  · obtain ⟨q0, h1, e, hx⟩ := stk q hq
    rw [e] at hk ⊢
    rcases has_put_inv h0.lt h with ⟨hne, h⟩ | ⟨e1, e2⟩
    · exact w.clean q0 h1 k c' hk (hx k hd).1 h
    · subst e1 e2
      exact hp ((hx k hd).2 rfl) _ (w.clean q0 h1 k c0 hk (hx k hd).1 h0)
theorem WF.openS (w : WF m) : WF m.openS := by
  refine ⟨w.lt, fun p hp => ?_, ?_, fun p hp k c hk hd h => ?_⟩
  · rcases List.mem_cons.mp hp with e | hp
    · subst e; exact Nat.le_refl _
    · exact w.top p hp
  · show (m.cells.length :: m.stk.map (·.1)).Pairwise _
    refine List.pairwise_cons.mpr ⟨fun x hx => ?_, w.ord⟩
    obtain ⟨q, hq, e⟩ := List.mem_map.mp hx
    subst e
    exact w.top q hq
  · rcases List.mem_cons.mp hp with e | hp
    · subst e; exact w.lt k c h
    · exact w.clean p hp k c hk hd h
/-- behind a scope's end: all cells, or just the older ones, which hold no other -/
theorem WF.close {held : Bool} (w : WF m) : WF (m.closeS n0 held) ∧ ((m.closeS n0 held).cells = m.cells ∨ (held = true ∧ (m.closeS n0 held).cells = m.cells.take n0 ∧ n0 ≤ m.cells.length ∧ ∀ k c, k < n0 → Has m k c → c.lt n0 = true)) := by
  unfold Mm.closeS
  cases hs : m.stk with
  | nil => exact ⟨w, .inl rfl⟩
  | cons p r =>
    obtain ⟨b, ds⟩ := p
    have wr : WF ⟨m.cells, r⟩ := ⟨w.lt, fun q hq => w.top q (by rw [hs]; exact List.mem_cons_of_mem _ hq), by have := w.ord; rw [hs] at this; exact (List.pairwise_cons.mp this).2, fun q hq => w.clean q (by rw [hs]; exact List.mem_cons_of_mem _ hq)⟩
    simp only []
    split
    · rename_i hb
      rw [Bool.and_eq_true, Bool.and_eq_true] at hb
      obtain ⟨⟨e1, e2⟩, e3⟩ := hb
      have e1 := of_decide_eq_true e1
      subst e1
      have hle : b ≤ m.cells.length := w.top (b, ds) (by rw [hs]; exact List.mem_cons_self)
      have all : ∀ k c, k < b → Has m k c → c.lt b = true := fun k c hk h => by
        by_cases hd : k ∈ ds
        · have := List.all_eq_true.mp e3 k hd
          rw [Bool.or_eq_true] at this
          rcases this with z | z
          · exact absurd (of_decide_eq_true z) (by omega)
          · rw [show m.cells[k]? = some c from h] at z; exact z
        · exact w.clean (b, ds) (by rw [hs]; exact List.mem_cons_self) k c hk hd h
      have tk : ∀ {k : Nat} {c : Cell}, (m.cells.take b)[k]? = some c → k < b ∧ Has m k c := fun {k c} h => by
        have hl := get_of h
        rw [List.length_take] at hl
        have hk : k < b := by omega
        rw [List.getElem?_take, if_pos hk] at h
        exact ⟨hk, h⟩
      refine ⟨⟨fun k c h => ?_, fun q hq => ?_, wr.ord, fun q hq k c hk hd h => ?_⟩, .inr ⟨e2, rfl, hle, all⟩⟩
      · obtain ⟨h1, h2⟩ := tk h
        have := all k c h1 h2
        show c.lt (m.cells.take b).length = true
        rw [List.length_take, Nat.min_eq_left hle]
        exact this
      · have := w.ord
        rw [hs] at this
        have hq1 : q.1 ≤ b := (List.pairwise_cons.mp this).1 q.1 (List.mem_map.mpr ⟨q, hq, rfl⟩)
        show q.1 ≤ (m.cells.take b).length
        rw [List.length_take]
        omega
      · exact wr.clean q hq k c hk hd (tk h).2
    · exact ⟨wr, .inl rfl⟩
mutual
theorem RdA.lt : ∀ {w : Wd} {x : PyData}, RdA m A w x → w.lt m.cells.length = true
  | _, _, .d _ => rfl
  | _, _, .tup h => RdsA.lt h
  | _, _, .lst h _ _ => decide_eq_true h.lt
  | _, _, .dct h _ _ => decide_eq_true h.lt
  | _, _, .ndc h _ _ _ => decide_eq_true h.lt
  | _, _, .gdc h _ _ => decide_eq_true h.lt
  | _, _, .ins h _ _ => decide_eq_true h.lt
theorem RdsA.lt : ∀ {w : List Wd} {x : List PyData}, RdsA m A w x → Wd.ltAll m.cells.length w = true
  | _, _, .nil => rfl
  | _, _, .cons h hs => by
    show (Wd.lt m.cells.length _ && Wd.ltAll m.cells.length _) = true
    rw [RdA.lt h, RdsA.lt hs]; rfl
end
theorem RdkA.lt : ∀ {b : Kt} {w : List (PyData × Wd)} {x : List (PyData × PyData)}, RdkA m A b w x → Wd.ltAll m.cells.length (w.map (·.2)) = true
  | _, _, _, .nil => rfl
  | _, _, _, .cons _ h hs => by
    show (Wd.lt m.cells.length _ && Wd.ltAll m.cells.length _) = true
    rw [RdA.lt h, RdkA.lt hs]; rfl
theorem RdC.lt {cl : Cell} {c : Co} (h : RdC m A cl c) : cl.lt m.cells.length = true := by
  cases cl with
  | lst ws => cases c with
    | l xs => exact RdsA.lt h
    | _ => exact h.elim
  | dct ws => cases c with
    | k xs => exact RdkA.lt h
    | _ => exact h.elim
  | ndc ws => cases c with
    | n xs => exact RdkA.lt h.1
    | _ => exact h.elim
  | gdc ws => cases c with
    | g xs => exact RdkA.lt h
    | _ => exact h.elim
  | ins _ _ => exact h.elim
  | tab _ _ => exact h.elim
mutual
theorem RdA.cut (hl : m'.cells = m.cells.take n0) (ha : ∀ k c, k < n0 → Has m k c → c.lt n0 = true) : ∀ {w : Wd} {x : PyData}, RdA m A w x → w.lt n0 = true → RdA m' A w x
  | _, _, .d h, _ => .d h
  | _, _, .tup h, e => .tup (RdsA.cut hl ha h e)
  | _, _, .lst (n := n) h hn hs, e => by
    have hk : n < n0 := of_decide_eq_true e
    exact .lst (by show m'.cells[n]? = _; rw [hl]; exact take_get h hk) hn (RdsA.cut hl ha hs (ha _ _ hk h))
  | _, _, .dct (n := n) h hn hs, e => by
    have hk : n < n0 := of_decide_eq_true e
    exact .dct (by show m'.cells[n]? = _; rw [hl]; exact take_get h hk) hn (RdkA.cut hl ha hs (ha _ _ hk h))
  | _, _, .ndc (n := n) h hn hs hne, e => by
    have hk : n < n0 := of_decide_eq_true e
    exact .ndc (by show m'.cells[n]? = _; rw [hl]; exact take_get h hk) hn (RdkA.cut hl ha hs (ha _ _ hk h)) hne
  | _, _, .gdc (n := n) h hn hs, e => by
    have hk : n < n0 := of_decide_eq_true e
    exact .gdc (by show m'.cells[n]? = _; rw [hl]; exact take_get h hk) hn (RdkA.cut hl ha hs (ha _ _ hk h))
  | _, _, .ins (n := n) h hn hs, e => by
    have hk : n < n0 := of_decide_eq_true e
    exact .ins (by show m'.cells[n]? = _; rw [hl]; exact take_get h hk) hn (RdiA.cut hl ha hs (ha _ _ hk h))
theorem RdsA.cut (hl : m'.cells = m.cells.take n0) (ha : ∀ k c, k < n0 → Has m k c → c.lt n0 = true) : ∀ {w : List Wd} {x : List PyData}, RdsA m A w x → Wd.ltAll n0 w = true → RdsA m' A w x
  | _, _, .nil, _ => .nil
  | _, _, .cons h hs, e => by
    have e' : (Wd.lt n0 _ && Wd.ltAll n0 _) = true := e
    rw [Bool.and_eq_true] at e'
    exact .cons (RdA.cut hl ha h e'.1) (RdsA.cut hl ha hs e'.2)
theorem RdkA.cut (hl : m'.cells = m.cells.take n0) (ha : ∀ k c, k < n0 → Has m k c → c.lt n0 = true) : ∀ {b : Kt} {w : List (PyData × Wd)} {x : List (PyData × PyData)}, RdkA m A b w x → Wd.ltAll n0 (w.map (·.2)) = true → RdkA m' A b w x
  | _, _, _, .nil, _ => .nil
  | _, _, _, .cons hk h hs, e => by
    have e' : (Wd.lt n0 _ && Wd.ltAll n0 _) = true := e
    rw [Bool.and_eq_true] at e'
    exact .cons hk (RdA.cut hl ha h e'.1) (RdkA.cut hl ha hs e'.2)
theorem RdiA.cut (hl : m'.cells = m.cells.take n0) (ha : ∀ k c, k < n0 → Has m k c → c.lt n0 = true) : ∀ {w : List (Str × Wd)} {x : List (Str × PyData)}, RdiA m A w x → Wd.ltAll n0 (w.map (·.2)) = true → RdiA m' A w x
  | _, _, .nil, _ => .nil
  | _, _, .cons h hs, e => by
    have e' : (Wd.lt n0 _ && Wd.ltAll n0 _) = true := e
    rw [Bool.and_eq_true] at e'
    exact .cons (RdA.cut hl ha h e'.1) (RdiA.cut hl ha hs e'.2)
end
/-- a value that is still held behind a scope's end -/
theorem RdA.close {held : Bool} (wf : WF m) {w : Wd} {x : PyData} (h : RdA m A w x) (hl : held = true → w.lt n0 = true) : RdA (m.closeS n0 held) A w x := by
  rcases (wf.close (n0 := n0) (held := held)).2 with e | ⟨h1, h2, h3, h4⟩
  · exact h.mv fun k c hk hn => ⟨by show (m.closeS n0 held).cells[k]? = _; rw [e]; exact hk, hn⟩
  · exact h.cut h2 h4 (hl h1)
end
end PD
set_option Elab.async false
set_option linter.all false
set_option maxRecDepth 100000
set_option maxHeartbeats 2000000
namespace PD
open PySem PySem.Spec PyProof.Rows L2 DL
/-- an object's field: data, a list or dict that nobody else has, another object -/
inductive Fd where
  | d (x : PyData) | c (c : Co) | ob (k : Nat)
structure Ob where
  cls : Str
  fs : List (Str × Fd)
/-- the bag of draws; the objects that may change -/
structure Bg where
  a : Int
  b : Int
  c : Int
  xs : List Int
  obs : List Ob
structure PEx where
  cls : Str
  fs : List (Str × PyData)
inductive PR (α : Type) where
  | ok (a : α) (s : Bg) | exc (x : PEx) (s : Bg) | stuck
def PR.bind {α β : Type} : PR α → (α → Bg → PR β) → PR β
  | .ok a s, k => k a s
  | .exc x s, _ => .exc x s
  | .stuck, _ => .stuck
@[simp] theorem PR.bind_ok {α β : Type} (a : α) (s : Bg) (k : α → Bg → PR β) : (PR.ok a s).bind k = k a s := rfl
@[simp] theorem PR.bind_exc {α β : Type} (x : PEx) (s : Bg) (k : α → Bg → PR β) : (PR.exc x s).bind k = .exc x s := rfl
@[simp] theorem PR.bind_stuck {α β : Type} (k : α → Bg → PR β) : (PR.stuck : PR α).bind k = .stuck := rfl
/-- d: data that never changes again; fr: a list or dict that nobody else has; bo: the one that slot i has; bag: the bag -/
inductive PV where
  | d (x : PyData) | fr (c : Co) | bo (i : Nat) (c : Co) | bag | ob (k : Nat)
inductive Sl where
  | no | d (x : PyData) | own (c : Co) | bag | ob (k : Nat)
abbrev PEnv := List Sl
abbrev Pe (α : Type) := PEnv → Bg → PR α
abbrev PFn := List PV → Bg → PR PV
inductive PFl where
  | nx | rt (v : PV) | bk | ct
inductive PS where
  | go (f : PFl) (e : PEnv) (s : Bg) | exc (x : PEx) (e : PEnv) (s : Bg) | stuck
abbrev Ps := PEnv → Bg → PS
def PR.of {α : Type} (o : Option α) (s : Bg) : PR α := match o with
  | some v => .ok v s
  | none => .stuck
@[simp] theorem PR.of_some {α : Type} (v : α) (s : Bg) : PR.of (some v) s = .ok v s := rfl
@[simp] theorem PR.of_none {α : Type} (s : Bg) : (PR.of none s : PR α) = .stuck := rfl
def GoodB (s : Bg) : Prop := 0 ≤ s.a ∧ 0 ≤ s.b ∧ 0 ≤ s.c ∧ (∀ x ∈ s.xs, 0 ≤ x) ∧ s.xs.length ≤ 63
/-- the bag as it should be, the objects as they were -/
def Good (z : List Ob) (s : Bg) : Prop := GoodB s ∧ s.obs = z
/-- where an object stands: its cell, the cells of what its fields alone have -/
structure OLo where
  n : Nat
  cs : List (Str × Nat)
def OLo.all (o : OLo) : List Nat := o.n :: o.cs.map (·.2)
structure Lo where
  bag : Option (Nat × Nat)
  obs : List OLo
def Lo.obA (B : Lo) : List Nat := B.obs.flatMap OLo.all
def bag1 : Option (Nat × Nat) → List Nat
  | none => []
  | some (i, _) => [i]
def bag2 : Option (Nat × Nat) → List Nat
  | none => []
  | some (i, r) => [i, r]
/-- the cells that may change -/
def bagC (B : Lo) : List Nat := bag1 B.bag ++ B.obA
def bagA (B : Lo) : List Nat := bag2 B.bag ++ B.obA
def BagB (B : Option (Nat × Nat)) (A : List Nat) (m : Mm) (s : Bg) : Prop := match B with
  | none => True
  | some (i, r) => i ≠ r ∧ i ∈ A ∧ r ∈ A ∧ Has m i (.lst [.d (.int s.a), .d (.int s.b), .d (.int s.c), .ref r]) ∧ Has m r (.lst (s.xs.map fun x => .d (.int x))) ∧ GoodB s
/-- a field -/
def FdR (B : Lo) (cs : List (Str × Nat)) (A : List Nat) (m : Mm) (f : Str) : Wd → Fd → Prop
  | w, .d x => RdA m A w x
  | w, .c c => ∃ p cl, cs.lookup f = some p ∧ w = .ref p ∧ Has m p cl ∧ RdC m A cl c
  | w, .ob k => ∃ l, B.obs[k]? = some l ∧ w = .ref l.n
def FdsR (B : Lo) (cs : List (Str × Nat)) (A : List Nat) (m : Mm) : List (Str × Wd) → List (Str × Fd) → Prop
  | [], [] => True
  | (f, w) :: r, (g, x) :: r' => f = g ∧ FdR B cs A m f w x ∧ FdsR B cs A m r r'
  | _, _ => False
structure ObR (B : Lo) (A : List Nat) (m : Mm) (l : OLo) (o : Ob) : Prop where
  fs : ∃ ws, Has m l.n (.ins o.cls ws) ∧ FdsR B l.cs A m ws o.fs
  cs : ∀ q ∈ l.cs, ∃ cl c, Has m q.2 cl ∧ RdC m A cl c
structure ObsR (B : Lo) (A : List Nat) (m : Mm) (s : Bg) : Prop where
  len : s.obs.length = B.obs.length
  at_ : ∀ (k : Nat) l o, B.obs[k]? = some l → s.obs[k]? = some o → ObR B A m l o
  nd : (bagA B).Nodup
  sub : ∀ k ∈ B.obA, k ∈ A
def BagR (B : Lo) (A : List Nat) (m : Mm) (s : Bg) : Prop := BagB B.bag A m s ∧ ObsR B A m s
def Tabs (tl : List (Str × Str)) (m : Mm) : Prop := ∀ p ∈ tl, ∃ k, Has m k (.tab p.1 p.2)
structure SR (tl : List (Str × Str)) (B : Lo) (n0 : Nat) (A : List Nat) (env : DL.Env) (m : Mm) (pe : PEnv) (s : Bg) : Prop where
  wf : WF m
  le : n0 ≤ m.cells.length
  len : env.length = pe.length
  val : ∀ (i : Nat) x, pe[i]? = some (.d x) → ∃ w, env[i]? = some (some w) ∧ RdA m A w x
  bagv : ∀ i : Nat, pe[i]? = some .bag → ∃ ib r, B.bag = some (ib, r) ∧ env[i]? = some (some (.ref ib))
  obv : ∀ i k : Nat, pe[i]? = some (.ob k) → ∃ l, B.obs[k]? = some l ∧ env[i]? = some (some (.ref l.n))
  own : ∀ (i : Nat) c, pe[i]? = some (.own c) → ∃ n cl, env[i]? = some (some (.ref n)) ∧ n ∈ A ∧ n0 ≤ n ∧ n ∉ bagA B ∧ Has m n cl ∧ RdC m A cl c
  dst : ∀ (i j : Nat) c c' n, pe[i]? = some (.own c) → pe[j]? = some (.own c') → env[i]? = some (some (.ref n)) → env[j]? = some (some (.ref n)) → i = j
  bag : BagR B A m s
  alt : ∀ n ∈ A, n < m.cells.length
  tab : Tabs tl m
def VR (pe : PEnv) (env : DL.Env) (B : Lo) (A : List Nat) (b0 : Nat) (m : Mm) : PV → Wd → Prop
  | .d x, w => RdA m A w x
  | .fr c, w => ∃ n cl, w = .ref n ∧ b0 ≤ n ∧ n ∉ A ∧ Has m n cl ∧ RdC m (n :: A) cl c
  | .bo i c, w => pe[i]? = some (.own c) ∧ env[i]? = some (some w)
  | .bag, w => ∃ i r, B.bag = some (i, r) ∧ w = .ref i
  | .ob k, w => ∃ l, B.obs[k]? = some l ∧ w = .ref l.n
/-- a fresh one lies below b -/
def Below (b : Nat) : PV → Wd → Prop
  | .fr _, w => ∀ n, w = .ref n → n < b
  | _, _ => True
/-- a fresh one is nobody else's from here on -/
def grow (A : List Nat) : PV → Wd → List Nat
  | .fr _, .ref n => n :: A
  | _, _ => A
def VRs (pe : PEnv) (env : DL.Env) (B : Lo) : List Nat → Nat → Mm → List PV → List Wd → Prop
  | _, _, _, [], [] => True
  | A, b0, m, v :: vs, w :: ws => ∃ m1 : Mm, b0 ≤ m1.cells.length ∧ Fr (bagC B) m1 m ∧ VR pe env B A b0 m1 v w ∧ Below m1.cells.length v w ∧ VRs pe env B (grow A v w) m1.cells.length m vs ws
  | _, _, _, _, _ => False
def RdfA (m : Mm) (A : List Nat) : List (Str × Wd) → List (Str × PyData) → Prop
  | [], [] => True
  | (f, w) :: r, (g, x) :: r' => f = g ∧ RdA m A w x ∧ RdfA m A r r'
  | _, _ => False
def XR (m : Mm) (A : List Nat) (x : PEx) (x' : Ex) : Prop := x'.cls = x.cls ∧ RdfA m A x'.fs x.fs
/-- the cells of fresh ones among values -/
class Gr (α β : Type) where
  gr : α → β → List Nat
instance : Gr PV Wd := ⟨fun v w => grow [] v w⟩
def grs : List PV → List Wd → List Nat
  | v :: vs, w :: ws => grow [] v w ++ grs vs ws
  | _, _ => []
instance : Gr (List PV) (List Wd) := ⟨grs⟩
instance : Gr Bool Bool := ⟨fun _ _ => []⟩
instance : Gr (Option Int) (Option Int) := ⟨fun _ _ => []⟩
/-- also where fresh cells are told apart -/
def BagS (B : Lo) (l A : List Nat) (m : Mm) (s : Bg) : Prop := BagR B A m s ∧ BagR B (l ++ A) m s
def RelE {α β : Type} [Gr α β] (rel : Nat → Mm → α → β → Prop) (B : Lo) (A : List Nat) (m : Mm) : PR α → Rs β → Prop
  | .ok v s', r => ∃ w m', r = .ok w m' ∧ Fr (bagC B) m m' ∧ WF m' ∧ BagS B (Gr.gr v w) A m' s' ∧ rel m.cells.length m' v w
  | .exc x s', r => ∃ x' m', r = .exc x' m' ∧ Fr (bagC B) m m' ∧ WF m' ∧ BagR B A m' s' ∧ XR m' A x x'
  | .stuck, _ => True
abbrev RelT (α β : Type) := PEnv → DL.Env → Lo → List Nat → Nat → Mm → α → β → Prop
def SimG {α β : Type} [Gr α β] (tl : List (Str × Str)) (rel : RelT α β) (g : Pe α) (f : Em β) : Prop := ∀ (B : Lo) (n0 : Nat) (A : List Nat) (env : DL.Env) (m : Mm) (pe : PEnv) (s : Bg), SR tl B n0 A env m pe s → RelE (rel pe env B A) B A m (g pe s) (f env m)
abbrev SimE (tl : List (Str × Str)) (g : Pe PV) (f : Em Wd) : Prop := SimG tl VR g f
abbrev SimA (tl : List (Str × Str)) (g : Pe (List PV)) (f : Em (List Wd)) : Prop := SimG tl VRs g f
abbrev SimT (tl : List (Str × Str)) (g : Pe Bool) (f : Em Bool) : Prop := SimG tl (fun _ _ _ _ _ _ a b => a = b) g f
abbrev SimO (tl : List (Str × Str)) (g : Pe (Option Int)) (f : Em (Option Int)) : Prop := SimG tl (fun _ _ _ _ _ _ a b => a = b) g f
section
variable {tl : List (Str × Str)} {B : Lo} {n0 b0 b1 : Nat} {A : List Nat} {env : DL.Env} {m m' m1 : Mm} {pe : PEnv} {s s' : Bg}
theorem bag1_2 {b : Option (Nat × Nat)} {k : Nat} (h : k ∈ bag1 b) : k ∈ bag2 b := by
  cases b with
  | none => cases h
  | some p => rw [List.mem_singleton.mp h]; exact List.mem_cons_self
theorem bagC_A {k : Nat} (h : k ∈ bagC B) : k ∈ bagA B := by
  rcases List.mem_append.mp h with h | h
  · exact List.mem_append_left _ (bag1_2 h)
  · exact List.mem_append_right _ h
theorem bagA_sub (h : BagR B A m s) : ∀ k ∈ bagA B, k ∈ A := fun k hk => by
  rcases List.mem_append.mp hk with hk | hk
  · have hb := h.1
    cases q : B.bag with
    | none => rw [q] at hk; cases hk
    | some p =>
      obtain ⟨i, r⟩ := p
      rw [q] at hk hb
      rcases List.mem_cons.mp hk with e | e
      · rw [e]; exact hb.2.1
      · rw [List.mem_singleton.mp e]; exact hb.2.2.1
  · exact h.2.sub k hk
theorem BagR.sub (h : BagR B A m s) : ∀ k ∈ bagC B, k ∈ A := fun k hk => bagA_sub h k (bagC_A hk)
theorem FdR.mv {cs : List (Str × Nat)} {A' : List Nat} (h0 : ∀ q ∈ cs, ∀ c, Has m q.2 c → Has m' q.2 c) (h1 : ∀ k c, Has m k c → k ∉ A → Has m' k c ∧ k ∉ A') {f : Str} : ∀ {w : Wd} {x : Fd}, FdR B cs A m f w x → FdR B cs A' m' f w x
  | _, .d _, h => RdA.mv h1 h
  | _, .c _, ⟨p, cl, e, e2, h, r⟩ => ⟨p, cl, e, e2, h0 _ (look_mem e) _ h, r.mv h1⟩
  | _, .ob _, h => h
theorem FdsR.mv {cs : List (Str × Nat)} {A' : List Nat} (h0 : ∀ q ∈ cs, ∀ c, Has m q.2 c → Has m' q.2 c) (h1 : ∀ k c, Has m k c → k ∉ A → Has m' k c ∧ k ∉ A') : ∀ {ws : List (Str × Wd)} {xs : List (Str × Fd)}, FdsR B cs A m ws xs → FdsR B cs A' m' ws xs
  | [], [], _ => trivial
  | (_, _) :: _, (_, _) :: _, ⟨e, h, hs⟩ => ⟨e, FdR.mv h0 h1 h, FdsR.mv h0 h1 hs⟩
  | [], _ :: _, h => h.elim
  | _ :: _, [], h => h.elim
theorem ObR.mv {A' : List Nat} {l : OLo} {o : Ob} (h0 : ∀ k ∈ l.all, ∀ c, Has m k c → Has m' k c) (h1 : ∀ k c, Has m k c → k ∉ A → Has m' k c ∧ k ∉ A') (h : ObR B A m l o) : ObR B A' m' l o := by
  obtain ⟨⟨ws, e, hf⟩, hc⟩ := h
  have h2 : ∀ q ∈ l.cs, ∀ c, Has m q.2 c → Has m' q.2 c := fun q hq => h0 _ (List.mem_cons_of_mem _ (List.mem_map_of_mem hq))
  exact ⟨⟨ws, h0 _ List.mem_cons_self _ e, hf.mv h2 h1⟩, fun q hq => let ⟨cl, c, e, r⟩ := hc q hq; ⟨cl, c, h2 q hq _ e, r.mv h1⟩⟩
theorem ob_all {k : Nat} {l : OLo} (e : B.obs[k]? = some l) : ∀ n ∈ l.all, n ∈ B.obA := fun n hn => List.mem_flatMap.mpr ⟨l, List.mem_of_getElem? e, hn⟩
/-- all that stands for the bag and the objects stays -/
theorem BagR.mv0 {A' : List Nat} (h : BagR B A m s) (h0 : ∀ k ∈ bagA B, ∀ c, Has m k c → Has m' k c) (h1 : ∀ k c, Has m k c → k ∉ A → Has m' k c ∧ k ∉ A') (h2 : ∀ k ∈ bagA B, k ∈ A') : BagR B A' m' s := by
  refine ⟨?_, h.2.len, fun k l o e1 e2 => (h.2.at_ k l o e1 e2).mv (fun n hn => h0 n (List.mem_append_right _ (ob_all e1 n hn))) h1, h.2.nd, fun k hk => h2 k (List.mem_append_right _ hk)⟩
  have hb := h.1
  have h3 : ∀ k ∈ bag2 B.bag, k ∈ A' := fun k hk => h2 k (List.mem_append_left _ hk)
  have h4 : ∀ k ∈ bag2 B.bag, ∀ c, Has m k c → Has m' k c := fun k hk => h0 k (List.mem_append_left _ hk)
  cases q : B.bag with
  | none => trivial
  | some p =>
    obtain ⟨i, r⟩ := p
    rw [q] at hb h3 h4
    exact ⟨hb.1, h3 i (by simp [bag2]), h3 r (by simp [bag2]), h4 i (by simp [bag2]) _ hb.2.2.2.1, h4 r (by simp [bag2]) _ hb.2.2.2.2.1, hb.2.2.2.2.2⟩
theorem BagR.mv {A' : List Nat} (h : BagR B A m s) (h0 : ∀ k c, Has m k c → Has m' k c) (h1 : ∀ k c, Has m k c → k ∉ A → k ∉ A') (h2 : ∀ k ∈ bagA B, k ∈ A') : BagR B A' m' s :=
  h.mv0 (fun k _ => h0 k) (fun k c hk hn => ⟨h0 k c hk, h1 k c hk hn⟩) h2
theorem BagR.anti {A' : List Nat} (h : BagR B A m s) (hs : ∀ k ∈ A', k ∈ A) (h2 : ∀ k ∈ bagA B, k ∈ A') : BagR B A' m s := h.mv (fun _ _ h => h) (fun k _ _ hn z => hn (hs k z)) h2
/-- new cells are nobody's -/
theorem BagR.new {A' : List Nat} (h : BagR B A m s) (f : Fr [] m m') (hs : ∀ k ∈ A', k ∈ A ∨ m.cells.length ≤ k) (h2 : ∀ k ∈ A, k ∈ A') : BagR B A' m' s :=
  h.mv (fun _ _ e => f.has e) (fun k c e hn z => by
    rcases hs k z with z | z
    · exact hn z
    · have := e.lt; omega) fun k hk => h2 k (bagA_sub h k hk)
/-- what stands at a cell that may change -/
theorem bag_cell {k : Nat} (h : BagR B A m s) (hk : k ∈ bagC B) : ∃ cl, Has m k cl ∧ ∀ x q, cl ≠ .tab x q := by
  have rd : ∀ {cl : Cell} {c : Co}, RdC m A cl c → ∀ x q, cl ≠ .tab x q := fun {cl c} r x q e => by subst e; exact r.elim
  rcases List.mem_append.mp hk with hk | hk
  · have hb := h.1
    cases q : B.bag with
    | none => rw [q] at hk; cases hk
    | some p =>
      obtain ⟨i, r⟩ := p
      rw [q] at hk hb
      rw [List.mem_singleton.mp hk]
      exact ⟨_, hb.2.2.2.1, fun _ _ e => by cases e⟩
  · obtain ⟨l, hl, hk⟩ := List.mem_flatMap.mp hk
    obtain ⟨j, hj, e⟩ := List.getElem_of_mem hl
    have e1 : B.obs[j]? = some l := by rw [List.getElem?_eq_getElem hj, e]
    have hj2 : j < s.obs.length := by rw [h.2.len]; exact hj
    have o := h.2.at_ j l _ e1 (List.getElem?_eq_getElem hj2)
    rcases List.mem_cons.mp hk with e | hk
    · obtain ⟨ws, hw, _⟩ := o.fs
      rw [e]
      exact ⟨_, hw, fun _ _ e => by cases e⟩
    · obtain ⟨q, hq, e⟩ := List.mem_map.mp hk
      obtain ⟨cl, c, hh, r⟩ := o.cs q hq
      rw [← e]
      exact ⟨cl, hh, rd r⟩
theorem fr_mv (hB : ∀ k ∈ bagC B, k ∈ A) (f : Fr (bagC B) m m') : ∀ k c, Has m k c → k ∉ A → Has m' k c ∧ k ∉ A := fun k c h hn => ⟨f.has h fun z => hn (hB k z), hn⟩
theorem RdA.fr (hB : ∀ k ∈ bagC B, k ∈ A) (f : Fr (bagC B) m m') {w : Wd} {x : PyData} (h : RdA m A w x) : RdA m' A w x := h.mv (fr_mv hB f)
theorem RdsA.fr (hB : ∀ k ∈ bagC B, k ∈ A) (f : Fr (bagC B) m m') {w : List Wd} {x : List PyData} (h : RdsA m A w x) : RdsA m' A w x := h.mv (fr_mv hB f)
theorem RdC.fr (hB : ∀ k ∈ bagC B, k ∈ A) (f : Fr (bagC B) m m') {w : Cell} {x : Co} (h : RdC m A w x) : RdC m' A w x := h.mv (fr_mv hB f)
theorem Tabs.fr (h : Tabs tl m) (f : Fr (bagC B) m m') (hb : BagR B A m s) : Tabs tl m' := fun p hp => by
  obtain ⟨k, hk⟩ := h p hp
  refine ⟨k, f.has hk fun z => ?_⟩
  obtain ⟨cl, h1, h2⟩ := bag_cell hb z
  exact h2 _ _ (h1.inj hk)
theorem SR.step (h : SR tl B n0 A env m pe s) (f : Fr (bagC B) m m') (w : WF m') (b : BagR B A m' s') : SR tl B n0 A env m' pe s' := by
  have hB := h.bag.sub
  refine ⟨w, Nat.le_trans h.le f.le, h.len, fun i x e => ?_, h.bagv, h.obv, fun i c e => ?_, h.dst, b, fun n hn => Nat.lt_of_lt_of_le (h.alt n hn) f.le, h.tab.fr f h.bag⟩
  · obtain ⟨w, e1, r⟩ := h.val i x e
    exact ⟨w, e1, r.fr hB f⟩
  · obtain ⟨n, cl, e1, h1, h2, h3, h4, h5⟩ := h.own i c e
    exact ⟨n, cl, e1, h1, h2, h3, f.has h4 fun z => h3 (bagC_A z), h5.fr hB f⟩
theorem VR.step (hB : ∀ k ∈ bagC B, k ∈ A) (f : Fr (bagC B) m m') : ∀ {v : PV} {w : Wd}, VR pe env B A b0 m v w → VR pe env B A b0 m' v w
  | .d _, _, h => RdA.fr hB f h
  | .fr _, _, ⟨n, cl, e, h1, h2, h3, h4⟩ => ⟨n, cl, e, h1, h2, f.has h3 fun z => h2 (hB _ z), h4.mv fun k c hk hn => ⟨f.has hk fun z => hn (List.mem_cons_of_mem _ (hB _ z)), hn⟩⟩
  | .bo _ _, _, h => h
  | .bag, _, h => h
  | .ob _, _, h => h
theorem VR.base (hb : b1 ≤ b0) : ∀ {v : PV} {w : Wd}, VR pe env B A b0 m v w → VR pe env B A b1 m v w
  | .d _, _, h => h
  | .fr _, _, ⟨n, cl, e, h1, h⟩ => ⟨n, cl, e, Nat.le_trans hb h1, h⟩
  | .bo _ _, _, h => h
  | .bag, _, h => h
  | .ob _, _, h => h
theorem VR.anti {A' : List Nat} (hs : ∀ k ∈ A', k ∈ A) : ∀ {v : PV} {w : Wd}, VR pe env B A b0 m v w → VR pe env B A' b0 m v w
  | .d _, _, h => h.mv fun k c hk hn => ⟨hk, fun z => hn (hs k z)⟩
  | .fr _, _, ⟨n, cl, e, h1, h2, h3, h4⟩ => ⟨n, cl, e, h1, fun z => h2 (hs n z), h3, h4.mv fun k c hk hn => ⟨hk, fun z => hn (by
      rcases List.mem_cons.mp z with e | z
      · rw [e]; exact List.mem_cons_self
      · exact List.mem_cons_of_mem _ (hs k z))⟩⟩
  | .bo _ _, _, h => h
  | .bag, _, h => h
  | .ob _, _, h => h
theorem grow_sub {A' : List Nat} (hs : ∀ k ∈ A', k ∈ A) (v : PV) (w : Wd) : ∀ k ∈ grow A' v w, k ∈ grow A v w := fun k hk => by
  unfold grow at hk ⊢
  split at hk
  · rcases List.mem_cons.mp hk with e | z
    · rw [e]; exact List.mem_cons_self
    · exact List.mem_cons_of_mem _ (hs k z)
  · exact hs k hk
theorem grow_self (v : PV) (w : Wd) : ∀ k ∈ A, k ∈ grow A v w := fun k hk => by
  unfold grow
  split
  · exact List.mem_cons_of_mem _ hk
  · exact hk
theorem VRs.base (hb : b1 ≤ b0) : ∀ {v : List PV} {w : List Wd}, VRs pe env B A b0 m v w → VRs pe env B A b1 m v w
  | [], [], h => h
  | _ :: _, _ :: _, ⟨m1, h1, h2, h3, h4⟩ => ⟨m1, Nat.le_trans hb h1, h2, h3.base hb, h4⟩
  | [], _ :: _, h => h.elim
  | _ :: _, [], h => h.elim
theorem VRs.anti : ∀ {A A' : List Nat} {b0 : Nat} {v : List PV} {w : List Wd}, (∀ k ∈ A', k ∈ A) → VRs pe env B A b0 m v w → VRs pe env B A' b0 m v w
  | _, _, _, [], [], _, h => h
  | _, _, _, v :: _, w :: _, hs, ⟨m1, h1, h2, h3, h4, h5⟩ => ⟨m1, h1, h2, h3.anti hs, h4, VRs.anti (grow_sub hs v w) h5⟩
  | _, _, _, [], _ :: _, _, h => h.elim
  | _, _, _, _ :: _, [], _, h => h.elim
/-- at the end's memory -/
theorem VRs.cons_inv (hB : ∀ k ∈ bagC B, k ∈ A) {v : PV} {vs : List PV} {w : Wd} {ws : List Wd} (h : VRs pe env B A b0 m (v :: vs) (w :: ws)) : VR pe env B A b0 m v w ∧ VRs pe env B A b0 m vs ws := by
  obtain ⟨m1, h1, h2, h3, _, h5⟩ := h
  exact ⟨h3.step hB h2, (h5.anti (grow_self v w)).base h1⟩
theorem VRs.length : ∀ {A : List Nat} {b0 : Nat} {v : List PV} {w : List Wd}, VRs pe env B A b0 m v w → v.length = w.length
  | _, _, [], [], _ => rfl
  | _, _, _ :: _, _ :: _, ⟨_, _, _, _, _, h⟩ => congrArg (· + 1) (VRs.length h)
  | _, _, [], _ :: _, h => h.elim
  | _, _, _ :: _, [], h => h.elim
theorem RelE.mono {α β : Type} [Gr α β] {rel rel' : Nat → Mm → α → β → Prop} {r : PR α} {R : Rs β} (h : RelE rel B A m r R) (i : ∀ m' v w, Fr (bagC B) m m' → WF m' → rel m.cells.length m' v w → rel' m.cells.length m' v w) : RelE rel' B A m r R := by
  cases r with
  | ok v s' => obtain ⟨w, m', e, f, wf, b, r⟩ := h; exact ⟨w, m', e, f, wf, b, i m' v w f wf r⟩
  | exc x s' => exact h
  | stuck => trivial
theorem RelE.bind0 {α β γ δ : Type} [Gr α β] [Gr γ δ] {rel : Nat → Mm → α → β → Prop} {rel' : Nat → Mm → γ → δ → Prop} {r : PR α} {R : Rs β} {k : α → Bg → PR γ} {K : β → Mm → Rs δ} (h : RelE rel B A m r R)
    (hk : ∀ v w m' s', Fr (bagC B) m m' → WF m' → BagR B A m' s' → rel m.cells.length m' v w → RelE (fun _ => rel' m.cells.length) B A m' (k v s') (K w m')) : RelE rel' B A m (r.bind k) (R.bind K) := by
  cases r with
  | ok v s' =>
    obtain ⟨w, m', e, f, wf, b, r⟩ := h
    subst e
    have h2 := hk v w m' s' f wf b.1 r
    show RelE rel' B A m (k v s') (K w m')
    cases e2 : k v s' with
    | ok v2 s2 =>
      rw [e2] at h2
      obtain ⟨w2, m2, e3, f2, wf2, b2, r2⟩ := h2
      exact ⟨w2, m2, e3, f.trans f2, wf2, b2, r2⟩
    | exc x s2 =>
      rw [e2] at h2
      obtain ⟨w2, m2, e3, f2, wf2, b2, r2⟩ := h2
      exact ⟨w2, m2, e3, f.trans f2, wf2, b2, r2⟩
    | stuck => trivial
  | exc x s' =>
    obtain ⟨w, m', e, f, wf, b, r⟩ := h
    subst e
    exact ⟨w, m', rfl, f, wf, b, r⟩
  | stuck => trivial
theorem RelE.bindS {α β γ δ : Type} [Gr α β] [Gr γ δ] {rel : Nat → Mm → α → β → Prop} {rel' : Nat → Mm → γ → δ → Prop} {r : PR α} {R : Rs β} {k : α → Bg → PR γ} {K : β → Mm → Rs δ} (h : RelE rel B A m r R)
    (hk : ∀ v w m' s', Fr (bagC B) m m' → WF m' → BagS B (Gr.gr v w) A m' s' → rel m.cells.length m' v w → RelE (fun _ => rel' m.cells.length) B A m' (k v s') (K w m')) : RelE rel' B A m (r.bind k) (R.bind K) := by
  cases r with
  | ok v s' =>
    obtain ⟨w, m', e, f, wf, b, r⟩ := h
    subst e
    have h2 := hk v w m' s' f wf b r
    show RelE rel' B A m (k v s') (K w m')
    cases e2 : k v s' with
    | ok v2 s2 =>
      rw [e2] at h2
      obtain ⟨w2, m2, e3, f2, wf2, b2, r2⟩ := h2
      exact ⟨w2, m2, e3, f.trans f2, wf2, b2, r2⟩
    | exc x s2 =>
      rw [e2] at h2
      obtain ⟨w2, m2, e3, f2, wf2, b2, r2⟩ := h2
      exact ⟨w2, m2, e3, f.trans f2, wf2, b2, r2⟩
    | stuck => trivial
  | exc x s' =>
    obtain ⟨w, m', e, f, wf, b, r⟩ := h
    subst e
    exact ⟨w, m', rfl, f, wf, b, r⟩
  | stuck => trivial
theorem RelE.bind {α β γ δ : Type} [Gr α β] [Gr γ δ] {rel : Nat → Mm → α → β → Prop} {rel' : Nat → Mm → γ → δ → Prop} {r : PR α} {R : Rs β} {k : α → Bg → PR γ} {K : β → Mm → Rs δ} (h : RelE rel B A m r R)
    (hb : ∀ b0 b1 m v w, b1 ≤ b0 → rel' b0 m v w → rel' b1 m v w)
    (hk : ∀ v w m' s', Fr (bagC B) m m' → WF m' → BagR B A m' s' → rel m.cells.length m' v w → RelE rel' B A m' (k v s') (K w m')) : RelE rel' B A m (r.bind k) (R.bind K) :=
  h.bind0 fun v w m' s' f wf b r => (hk v w m' s' f wf b r).mono fun m2 v2 w2 f2 _ r2 => hb _ _ _ _ _ f.le r2
/-- at most one new cell -/
def Nx (m m' : Mm) : Prop := m' = m ∨ ∃ c : Cell, c.lt m.cells.length = true ∧ m' = m.push c
theorem BagR.fr0 (h : BagR B A m s) (f : Fr [] m m') : BagR B A m' s := h.mv (fun _ _ e => f.has e) (fun _ _ _ hn => hn) fun k hk => bagA_sub h k hk
theorem bagS_new {l : List Nat} (h : BagR B A m s) (f : Fr [] m m') (hl : ∀ k ∈ l, m.cells.length ≤ k) : BagS B l A m' s :=
  ⟨h.fr0 f, h.new f (fun k hk => by
    rcases List.mem_append.mp hk with z | z
    · exact .inr (hl k z)
    · exact .inl z) fun k hk => List.mem_append_right _ hk⟩
theorem bagS_0 (h : BagR B A m s) : BagS B [] A m s := ⟨h, h⟩
/-- what is fresh lies behind -/
class GrR (α β : Type) [Gr α β] (rel : Nat → Mm → α → β → Prop) : Prop where
  le : ∀ b0 m v w, rel b0 m v w → ∀ k ∈ Gr.gr v w, b0 ≤ k
theorem gr_V {v : PV} {w : Wd} (h : VR pe env B A b0 m v w) : ∀ k ∈ grow [] v w, b0 ≤ k := fun k hk => by
  unfold grow at hk
  split at hk
  · obtain ⟨n, cl, e, h1, _⟩ := h
    cases e
    rw [List.mem_singleton.mp hk]; exact h1
  · cases hk
theorem gr_Vs : ∀ {A : List Nat} {b0 : Nat} {vs : List PV} {ws : List Wd}, VRs pe env B A b0 m vs ws → ∀ k ∈ grs vs ws, b0 ≤ k
  | _, _, [], [], _, k, hk => by cases hk
  | _, _, v :: vs, w :: ws, ⟨m1, h1, h2, h3, h4, h5⟩, k, hk => by
    rcases List.mem_append.mp hk with hk | hk
    · exact gr_V h3 k hk
    · exact Nat.le_trans h1 (gr_Vs h5 k hk)
  | _, _, [], _ :: _, h, _, _ => h.elim
  | _, _, _ :: _, [], h, _, _ => h.elim
instance : GrR PV Wd (VR pe env B A) := ⟨fun _ _ _ _ h => gr_V h⟩
instance : GrR (List PV) (List Wd) (VRs pe env B A) := ⟨fun _ _ _ _ h => gr_Vs h⟩
instance {rel : Nat → Mm → Bool → Bool → Prop} : GrR Bool Bool rel := ⟨fun _ _ _ _ _ k hk => by cases hk⟩
instance {rel : Nat → Mm → Option Int → Option Int → Prop} : GrR (Option Int) (Option Int) rel := ⟨fun _ _ _ _ _ k hk => by cases hk⟩
theorem Nx.fr0 (h : Nx m m') : Fr [] m m' := by
  rcases h with e | ⟨c, _, e⟩
  · subst e; exact .refl
  · subst e; exact fr_push
theorem Nx.wf (h : Nx m m') (w : WF m) : WF m' := by
  rcases h with e | ⟨c, hc, e⟩
  · subst e; exact w
  · subst e; exact w.push hc
theorem relE_of {α β : Type} [Gr α β] {rel : Nat → Mm → α → β → Prop} [GrR α β rel] {v : α} {w : β} (h : SR tl B n0 A env m pe s) (n : Nx m m') (r : rel m.cells.length m' v w) : RelE rel B A m (.ok v s) (.ok w m') :=
  ⟨w, m', rfl, n.fr0.any, n.wf h.wf, ⟨h.bag.fr0 n.fr0, h.bag.new n.fr0 (fun k hk => by
    rcases List.mem_append.mp hk with z | z
    · exact .inr (GrR.le _ _ _ _ r k z)
    · exact .inl z) fun k hk => List.mem_append_right _ hk⟩, r⟩
def pC (x : PyData) : Pe PV := fun _ s => .ok (.d x) s
def pV (i : Nat) : Pe PV := fun e s => match e[i]? with
  | some (.d x) => .ok (.d x) s
  | some (.own c) => .ok (.bo i c) s
  | some .bag => .ok .bag s
  | some (.ob k) => .ok (.ob k) s
  | _ => .stuck
def p1 (p : PV → Option PV) (g : Pe PV) : Pe PV := fun e s => (g e s).bind fun a s => PR.of (p a) s
def p2 (p : PV → PV → Option PV) (ga gb : Pe PV) : Pe PV := fun e s => (ga e s).bind fun a s => (gb e s).bind fun b s => PR.of (p a b) s
def pN (p : List PV → Option PV) (g : Pe (List PV)) : Pe PV := fun e s => (g e s).bind fun vs s => PR.of (p vs) s
def paN : Pe (List PV) := fun _ s => .ok [] s
def paC (g : Pe PV) (r : Pe (List PV)) : Pe (List PV) := fun e s => (g e s).bind fun v s => (r e s).bind fun vs s => .ok (v :: vs) s
def Op1Ok (g : Op1) (p : PV → Option PV) : Prop := ∀ {tl : List (Str × Str)} {B : Lo} {n0 : Nat} {A : List Nat} {env : DL.Env} {m : Mm} {pe : PEnv} {s : Bg} {a : PV} {wa : Wd} {v : PV}, SR tl B n0 A env m pe s → VR pe env B A 0 m a wa → p a = some v → ∃ w m', g wa m = some (w, m') ∧ Nx m m' ∧ VR pe env B A m.cells.length m' v w
def Op2Ok (g : Op2) (p : PV → PV → Option PV) : Prop := ∀ {tl : List (Str × Str)} {B : Lo} {n0 : Nat} {A : List Nat} {env : DL.Env} {m : Mm} {pe : PEnv} {s : Bg} {a b : PV} {wa wb : Wd} {v : PV}, SR tl B n0 A env m pe s → VR pe env B A 0 m a wa → VR pe env B A 0 m b wb → p a b = some v → ∃ w m', g wa wb m = some (w, m') ∧ Nx m m' ∧ VR pe env B A m.cells.length m' v w
def OpNOk (g : OpN) (p : List PV → Option PV) : Prop := ∀ {tl : List (Str × Str)} {B : Lo} {n0 : Nat} {A : List Nat} {env : DL.Env} {m : Mm} {pe : PEnv} {s : Bg} {vs : List PV} {ws : List Wd} {v : PV}, SR tl B n0 A env m pe s → VRs pe env B A 0 m vs ws → p vs = some v → ∃ w m', g ws m = some (w, m') ∧ Nx m m' ∧ VR pe env B A m.cells.length m' v w
theorem sim_C {x : PyData} (hx : okD x = true) : SimE tl (pC x) (eC (.d x)) := fun B n0 A env m pe s h => relE_of h (.inl rfl) (.d hx)
theorem sim_V {i : Nat} : SimE tl (pV i) (eV i) := fun B n0 A env m pe s h => by
  show RelE _ _ _ _ (match pe[i]? with
    | some (.d x) => PR.ok (PV.d x) s
    | some (.own c) => PR.ok (PV.bo i c) s
    | some .bag => PR.ok PV.bag s
    | some (.ob k) => PR.ok (PV.ob k) s
    | _ => (PR.stuck : PR PV)) _
  unfold eV
  split
  · rename_i x e
    obtain ⟨w, e1, r⟩ := h.val i x e
    rw [e1]
    exact relE_of h (.inl rfl) r
  · rename_i c e
    obtain ⟨n, cl, e1, _⟩ := h.own i c e
    rw [e1]
    exact relE_of h (.inl rfl) ⟨e, e1⟩
  · rename_i e
    obtain ⟨ib, r, e0, e1⟩ := h.bagv i e
    rw [e1]
    exact relE_of h (.inl rfl) ⟨ib, r, e0, rfl⟩
  · rename_i k e
    obtain ⟨l, e0, e1⟩ := h.obv i k e
    rw [e1]
    exact relE_of h (.inl rfl) ⟨l, e0, rfl⟩
  · trivial
theorem sim_1 {g : Op1} {p : PV → Option PV} {ga : Pe PV} {fa : Em Wd} (o : Op1Ok g p) (ha : SimE tl ga fa) : SimE tl (p1 p ga) (e1 g fa) := fun B n0 A env m pe s h =>
  (ha B n0 A env m pe s h).bind (fun _ _ _ _ _ hb => VR.base hb) fun a wa m1 s1 f1 w1 b1 r1 => by
    have h1 := h.step f1 w1 b1
    cases e : p a with
    | none => trivial
    | some v =>
      obtain ⟨w, m', e1, nx, r⟩ := o h1 (r1.base (Nat.zero_le _)) e
      rw [e1]
      exact relE_of h1 nx r
theorem sim_2 {g : Op2} {p : PV → PV → Option PV} {ga gb : Pe PV} {fa fb : Em Wd} (o : Op2Ok g p) (ha : SimE tl ga fa) (hb : SimE tl gb fb) : SimE tl (p2 p ga gb) (e2 g fa fb) := fun B n0 A env m pe s h =>
  (ha B n0 A env m pe s h).bind (fun _ _ _ _ _ hb => VR.base hb) fun a wa m1 s1 f1 w1 b1 r1 => by
    have h1 := h.step f1 w1 b1
    refine (hb B n0 A env m1 pe s1 h1).bind (fun _ _ _ _ _ hb => VR.base hb) fun b wb m2 s2 f2 w2 b2 r2 => ?_
    have h2 := h1.step f2 w2 b2
    cases e : p a b with
    | none => trivial
    | some v =>
      obtain ⟨w, m', e1, nx, r⟩ := o h2 ((r1.step h.bag.sub f2).base (Nat.zero_le _)) (r2.base (Nat.zero_le _)) e
      rw [e1]
      exact relE_of h2 nx r
theorem sim_N {g : OpN} {p : List PV → Option PV} {ga : Pe (List PV)} {fa : Em (List Wd)} (o : OpNOk g p) (ha : SimA tl ga fa) : SimE tl (pN p ga) (eN g fa) := fun B n0 A env m pe s h =>
  (ha B n0 A env m pe s h).bind (fun _ _ _ _ _ hb => VR.base hb) fun a wa m1 s1 f1 w1 b1 r1 => by
    have h1 := h.step f1 w1 b1
    cases e : p a with
    | none => trivial
    | some v =>
      obtain ⟨w, m', e1, nx, r⟩ := o h1 (r1.base (Nat.zero_le _)) e
      rw [e1]
      exact relE_of h1 nx r
theorem sim_aN : SimA tl paN aN := fun B n0 A env m pe s h => relE_of h (.inl rfl) trivial
theorem below_of {v : PV} {w : Wd} (h : VR pe env B A b0 m v w) : Below m.cells.length v w := by
  cases v with
  | fr c =>
    obtain ⟨n, cl, e, _, _, h3, _⟩ := h
    intro n' e'
    rw [e] at e'
    cases e'
    exact h3.lt
  | _ => trivial
/-- more cells that none of the slots looks at -/
theorem SR.growA {A' : List Nat} (h : SR tl B n0 A env m pe s) (f : Fr (bagC B) m m') (w : WF m') (b : BagR B A' m' s') (h1 : ∀ k ∈ A', k ∈ A ∨ m.cells.length ≤ k) (h2 : ∀ k ∈ A, k ∈ A') (h3 : ∀ k ∈ A', k < m'.cells.length) : SR tl B n0 A' env m' pe s' := by
  have hB := h.bag.sub
  have mv : ∀ k c, Has m k c → k ∉ A → Has m' k c ∧ k ∉ A' := fun k c hk hn => ⟨f.has hk fun z => hn (hB k z), fun z => by
    rcases h1 k z with z | z
    · exact hn z
    · have := hk.lt; omega⟩
  refine ⟨w, Nat.le_trans h.le f.le, h.len, fun i x e => ?_, h.bagv, h.obv, fun i c e => ?_, h.dst, b, h3, h.tab.fr f h.bag⟩
  · obtain ⟨w, e1, r⟩ := h.val i x e
    exact ⟨w, e1, r.mv mv⟩
  · obtain ⟨n, cl, e1, g1, g2, g3, g4, g5⟩ := h.own i c e
    exact ⟨n, cl, e1, h2 n g1, g2, g3, f.has g4 fun z => g3 (bagC_A z), g5.mv mv⟩
theorem RdfA.anti {A' : List Nat} (hs : ∀ k ∈ A', k ∈ A) : ∀ {x : List (Str × Wd)} {y : List (Str × PyData)}, RdfA m A x y → RdfA m A' x y
  | [], [], _ => trivial
  | (_, _) :: _, (_, _) :: _, ⟨h1, h2, h3⟩ => ⟨h1, h2.mv fun k c hk hn => ⟨hk, fun z => hn (hs k z)⟩, RdfA.anti hs h3⟩
  | [], _ :: _, h => h.elim
  | _ :: _, [], h => h.elim
theorem grow_app (v : PV) (w : Wd) : grow A v w = grow [] v w ++ A := by
  unfold grow
  split <;> rfl
theorem sim_aC {g : Pe PV} {r : Pe (List PV)} {f : Em Wd} {fr : Em (List Wd)} (hg : SimE tl g f) (hr : SimA tl r fr) : SimA tl (paC g r) (aC f fr) := fun B n0 A env m pe s h => by
  have hA := bagA_sub h.bag
  have q := hg B n0 A env m pe s h
  unfold paC aC
  cases e : g pe s with
  | stuck => trivial
  | exc x s1 =>
    rw [e] at q
    obtain ⟨x', m1, e1, f1, w1, b1, r1⟩ := q
    rw [e1]
    exact ⟨x', m1, rfl, f1, w1, b1, r1⟩
  | ok a s1 =>
    rw [e] at q
    obtain ⟨wa, m1, e1, f1, w1, b1, r1⟩ := q
    rw [e1]
    simp only [PR.bind_ok, Rs.bind_ok]
    have hgr : ∀ k ∈ grow A a wa, (k ∈ A ∨ m.cells.length ≤ k) ∧ k < m1.cells.length := fun k hk => by
      have old : k ∈ A → (k ∈ A ∨ m.cells.length ≤ k) ∧ k < m1.cells.length := fun z => ⟨.inl z, Nat.lt_of_lt_of_le (h.alt k z) f1.le⟩
      unfold grow at hk
      split at hk
      · obtain ⟨n, cl, e, g1, g2, g3, g4⟩ := r1
        cases e
        rcases List.mem_cons.mp hk with e | z
        · rw [e]; exact ⟨.inr g1, g3.lt⟩
        · exact old z
      · exact old hk
    have b1' : BagR B (grow A a wa) m1 s1 := by rw [grow_app]; exact b1.2
    have h1 : SR tl B n0 (grow A a wa) env m1 pe s1 := h.growA f1 w1 b1' (fun k hk => (hgr k hk).1) (grow_self a wa) fun k hk => (hgr k hk).2
    have q2 := hr B n0 _ env m1 pe s1 h1
    cases e2 : r pe s1 with
    | stuck => trivial
    | exc x s2 =>
      rw [e2] at q2
      obtain ⟨x', m2, e3, f2, w2, b2, r2⟩ := q2
      rw [e3]
      exact ⟨x', m2, rfl, f1.trans f2, w2, b2.anti (grow_self a wa) hA, r2.1, r2.2.anti (grow_self a wa)⟩
    | ok vs s2 =>
      rw [e2] at q2
      obtain ⟨ws, m2, e3, f2, w2, b2, r2⟩ := q2
      rw [e3]
      refine ⟨wa :: ws, m2, rfl, f1.trans f2, w2, ⟨b2.1.anti (grow_self a wa) hA, b2.2.anti (fun k hk => ?_) fun k hk => List.mem_append_right _ (hA k hk)⟩, m1, f1.le, f2, r1, below_of r1, r2⟩
      have hk' : k ∈ (grow [] a wa ++ grs vs ws) ++ A := hk
      rw [grow_app]
      rcases List.mem_append.mp hk' with z | z
      · rcases List.mem_append.mp z with z | z
        · exact List.mem_append_right _ (List.mem_append_left _ z)
        · exact List.mem_append_left _ z
      · exact List.mem_append_right _ (List.mem_append_right _ z)
end
end PD
set_option Elab.async false
set_option linter.all false
set_option maxRecDepth 100000
set_option maxHeartbeats 2000000
namespace PD
open PySem PySem.Spec PyProof.Rows L2 DL
def lstP : PV → Option (List PyData)
  | .d (.list xs) => some xs
  | .fr (.l xs) => some xs
  | .bo _ (.l xs) => some xs
  | _ => none
def tupP : PV → Option (List PyData)
  | .d (.tuple xs) => some xs
  | _ => none
def seqP : PV → Option (List PyData)
  | .d (.list xs) => some xs
  | .d (.tuple xs) => some xs
  | .fr (.l xs) => some xs
  | .bo _ (.l xs) => some xs
  | _ => none
def valP : PV → Option PyData
  | .d x => some x
  | .fr c => some c.toD
  | .bo _ c => some c.toD
  | .bag => none
  | .ob _ => none
def frz : PV → Option PyData
  | .d x => some x
  | .fr c => some c.toD
  | _ => none
section
variable {tl : List (Str × Str)} {B : Lo} {n0 b0 b1 : Nat} {A : List Nat} {env : DL.Env} {m m' m1 : Mm} {pe : PEnv} {s s' : Bg} {v : PV} {w : Wd} {vs : List PV} {ws : List Wd}
theorem RdC.dropA {n : Nat} {cl : Cell} {c : Co} (h : RdC m (n :: A) cl c) : RdC m A cl c := h.mv fun k c hk hn => ⟨hk, fun z => hn (List.mem_cons_of_mem _ z)⟩
theorem lst_ok (h : SR tl B n0 A env m pe s) (r : VR pe env B A b0 m v w) {xs : List PyData} (e : lstP v = some xs) : ∃ n ws, w = .ref n ∧ Has m n (.lst ws) ∧ RdsA m A ws xs := by
  unfold lstP at e
  split at e
  · cases e
    obtain ⟨n, ws, e1, h1, _, h2⟩ := RdA.lstI r
    exact ⟨n, ws, e1, h1, h2⟩
  · cases e
    obtain ⟨n, cl, e1, _, _, h3, h4⟩ := r
    cases cl with
    | lst ws => exact ⟨n, ws, e1, h3, h4.dropA⟩
    | _ => exact h4.elim
  · cases e
    obtain ⟨n, cl, e1, _, _, _, h3, h4⟩ := h.own _ _ r.1
    have e2 := r.2.symm.trans e1
    cases e2
    cases cl with
    | lst ws => exact ⟨n, ws, rfl, h3, h4⟩
    | _ => exact h4.elim
  · cases e
theorem tup_ok (r : VR pe env B A b0 m v w) {xs : List PyData} (e : tupP v = some xs) : ∃ ws, tupOf w = some ws ∧ RdsA m A ws xs := by
  unfold tupP at e
  split at e
  · cases e; exact RdA.tupI r
  · cases e
theorem seq_ok (h : SR tl B n0 A env m pe s) (r : VR pe env B A b0 m v w) {xs : List PyData} (e : seqP v = some xs) : ∃ ws, seqOf m w = some ws ∧ RdsA m A ws xs := by
  have key : ∀ {xs}, lstP v = some xs → ∃ ws, seqOf m w = some ws ∧ RdsA m A ws xs := fun e => by
    obtain ⟨n, ws, e1, h1, h2⟩ := lst_ok h r e
    subst e1
    exact ⟨ws, s_ref h1, h2⟩
  unfold seqP at e
  split at e
  · exact key e
  · obtain ⟨ws, e1, h2⟩ := tup_ok r (show tupP (.d (.tuple _)) = some _ from e)
    exact ⟨ws, tupOf_seq e1, h2⟩
  · exact key e
  · exact key e
  · cases e
theorem RdA.any (h : RdA m A w x) : RdA m [] w x := h.mv fun k c hk _ => ⟨hk, by simp⟩
theorem val_ok (h : SR tl B n0 A env m pe s) (r : VR pe env B A b0 m v w) {x : PyData} (e : valP v = some x) : RdA m [] w x := by
  have em : ∀ {A : List Nat} {cl : Cell} {c : Co}, RdC m A cl c → RdC m [] cl c := fun h => h.mv fun k c hk _ => ⟨hk, by simp⟩
  unfold valP at e
  split at e
  · cases e; exact RdA.any r
  · cases e
    obtain ⟨n, cl, e1, _, _, h3, h4⟩ := r
    subst e1
    exact .of h3 (by simp) (em h4)
  · cases e
    obtain ⟨n, cl, e1, _, _, _, h3, h4⟩ := h.own _ _ r.1
    have e2 := r.2.symm.trans e1
    cases e2
    exact .of h3 (by simp) (em h4)
  · cases e
  · cases e
theorem frz_ok (r : VR pe env B A b0 m v w) {x : PyData} (e : frz v = some x) : RdA m A w x := by
  unfold frz at e
  split at e
  · cases e; exact r
  · cases e
    obtain ⟨n, cl, e1, _, h2, h3, h4⟩ := r
    subst e1
    exact .of h3 h2 h4.dropA
  · cases e
theorem fr_new (h : SR tl B n0 A env m pe s) {cl : Cell} {c : Co} (r : RdC m A cl c) (hb : b0 ≤ m.cells.length) : VR pe env B A b0 (m.push cl) (.fr c) (.ref m.cells.length) :=
  ⟨_, cl, rfl, hb, fun z => Nat.lt_irrefl _ (h.alt _ z), has_push, r.mv fun k c hk hn => ⟨hk.push, fun z => by
    rcases List.mem_cons.mp z with e | z
    · have := hk.lt; omega
    · exact hn z⟩⟩
theorem nx_new {cl : Cell} {c : Co} (r : RdC m A cl c) : Nx m (m.push cl) := .inr ⟨cl, r.lt, rfl⟩
theorem vrs0 (r : VRs pe env B A b0 m [] ws) : ws = [] := by
  cases ws with
  | nil => rfl
  | cons _ _ => exact r.elim
theorem vrs1 (hB : ∀ k ∈ bagC B, k ∈ A) (r : VRs pe env B A b0 m [v] ws) : ∃ w, ws = [w] ∧ VR pe env B A b0 m v w := by
  cases ws with
  | nil => exact r.elim
  | cons w ws =>
    obtain ⟨r1, r2⟩ := r.cons_inv hB
    rw [vrs0 r2]
    exact ⟨w, rfl, r1⟩
theorem vrs2 (hB : ∀ k ∈ bagC B, k ∈ A) {v' : PV} (r : VRs pe env B A b0 m [v, v'] ws) : ∃ w w', ws = [w, w'] ∧ VR pe env B A b0 m v w ∧ VR pe env B A b0 m v' w' := by
  cases ws with
  | nil => exact r.elim
  | cons w ws =>
    obtain ⟨r1, r2⟩ := r.cons_inv hB
    obtain ⟨w', e, r3⟩ := vrs1 hB r2
    subst e
    exact ⟨w, w', rfl, r1, r3⟩
end
/-- an answer that is data, the memory being left as it was -/
theorem op_d {pe : PEnv} {env : DL.Env} {B : Lo} {A : List Nat} {m : Mm} {x : PyData} {w : Wd} (o : Option (Wd × Mm)) (e : o = some (w, m)) (r : RdA m A w x) : ∃ w m', o = some (w, m') ∧ Nx m m' ∧ VR pe env B A m.cells.length m' (.d x) w := ⟨w, m, e, .inl rfl, r⟩
def pInt (C : Int → Int → Bool) (g : Int → Int → PyData) : PV → PV → Option PV
  | .d (.int i), .d (.int j) => if C i j = true then some (.d (g i j)) else none
  | _, _ => none
theorem op_int {C : Int → Int → Bool} {g : Int → Int → PyData} (hg : ∀ i j, okD (g i j) = true) : Op2Ok (intO C g) (pInt C g) := fun {tl B n0 A env m pe s a b wa wb v} h ra rb e => by
  unfold pInt at e
  split at e
  · rename_i i j
    rw [RdA.flat ra rfl, RdA.flat rb rfl]
    split at e
    · rename_i hc
      cases e
      exact op_d _ (show (if C i j = true then some (Wd.d (g i j), m) else none) = _ by rw [if_pos hc]) (.d (hg i j))
    · cases e
  · cases e
def pSub := pInt (fun _ _ => true) fun i j => .int (i - j)
def pFdiv := pInt (fun _ j => decide (0 < j ∧ j < 1073741824)) fun i j => .int (i / j)
def pMod := pInt (fun _ j => decide (0 < j)) fun i j => .int (i % j)
def pPow := pInt (fun i j => decide (0 ≤ j ∧ j ≤ 1000000 ∧ i.natAbs < 2 ^ 64)) fun i j => .int (i ^ j.toNat)
def pLt := pInt (fun _ _ => true) fun i j => .bool (decide (i < j))
def pLe := pInt (fun _ _ => true) fun i j => .bool (decide (i ≤ j))
def pGt := pInt (fun _ _ => true) fun i j => .bool (decide (j < i))
def pGe := pInt (fun _ _ => true) fun i j => .bool (decide (j ≤ i))
theorem op_sub : Op2Ok subO pSub := op_int fun _ _ => rfl
theorem op_fdiv : Op2Ok fdivO pFdiv := op_int fun _ _ => rfl
theorem op_mod : Op2Ok modO pMod := op_int fun _ _ => rfl
theorem op_pow : Op2Ok powO pPow := op_int fun _ _ => rfl
theorem op_lt : Op2Ok ltO pLt := op_int fun _ _ => rfl
theorem op_le : Op2Ok leO pLe := op_int fun _ _ => rfl
theorem op_gt : Op2Ok gtO pGt := op_int fun _ _ => rfl
theorem op_ge : Op2Ok geO pGe := op_int fun _ _ => rfl
def pAdd (a b : PV) : Option PV := match a, b with
  | .d (.int i), .d (.int j) => some (.d (.int (i + j)))
  | .d (.str x), .d (.str y) => if x.length + y.length ≤ LIM then some (.d (.str (x ++ y))) else none
  | a, b => match lstP a, lstP b with
    | some xs, some ys => if xs.length + ys.length ≤ LIM then some (.fr (.l (xs ++ ys))) else none
    | _, _ => match tupP a, tupP b with
      | some xs, some ys => if xs.length + ys.length ≤ LIM then some (.d (.tuple (xs ++ ys))) else none
      | _, _ => none
theorem addO_tup {a b : Wd} {m : Mm} {xs ys : List Wd} (ha : tupOf a = some xs) (hb : tupOf b = some ys) (hl : xs.length + ys.length ≤ LIM) : addO a b m = some (mkTup (xs ++ ys), m) := by
  have g : ∀ (o : Option (Wd × Mm)), o = (match tupOf a, tupOf b with
    | some xs, some ys => if xs.length + ys.length ≤ LIM then some (mkTup (xs ++ ys), m) else none
    | _, _ => none) → o = some (mkTup (xs ++ ys), m) := fun o e => by
    rw [e, ha, hb]
    exact if_pos hl
  refine g _ ?_
  cases a with
  | d x => cases x with
    | tuple _ => rfl
    | _ => cases ha
  | tup _ => rfl
  | _ => cases ha
theorem op_add : Op2Ok addO pAdd := fun {tl B n0 A env m pe s a b wa wb v} h ra rb e => by
  unfold pAdd at e
  split at e
  · rw [RdA.flat ra rfl, RdA.flat rb rfl]; cases e; exact op_d _ rfl (.d rfl)
  · rename_i x y
    rw [RdA.flat ra rfl, RdA.flat rb rfl]
    split at e
    · rename_i hl
      cases e
      exact op_d _ (show (if x.length + y.length ≤ LIM then some (Wd.d (.str (x ++ y)), m) else none) = _ by rw [if_pos hl]) (.d rfl)
    · cases e
  · split at e
    · rename_i xs ys e1 e2
      obtain ⟨n, ws, q1, h1, r1⟩ := lst_ok h ra e1
      obtain ⟨k, us, q2, h2, r2⟩ := lst_ok h rb e2
      subst q1 q2
      split at e
      · rename_i hl
        cases e
        have r : RdC m A (.lst (ws ++ us)) (.l (xs ++ ys)) := r1.append r2
        refine ⟨_, _, ?_, nx_new r, fr_new h r (Nat.le_refl _)⟩
        show (match m.cells[n]?, m.cells[k]? with
          | some (.lst xs), some (.lst ys) => if xs.length + ys.length ≤ LIM then some (Wd.ref m.cells.length, m.push (.lst (xs ++ ys))) else none
          | _, _ => none) = _
        rw [show m.cells[n]? = some (.lst ws) from h1, show m.cells[k]? = some (.lst us) from h2]
        exact if_pos (by rw [r1.length, r2.length]; exact hl)
      · cases e
    · split at e
      · rename_i xs ys e1 e2
        obtain ⟨ws, q1, r1⟩ := tup_ok ra e1
        obtain ⟨us, q2, r2⟩ := tup_ok rb e2
        split at e
        · rename_i hl
          cases e
          exact op_d _ (addO_tup q1 q2 (by rw [r1.length, r2.length]; exact hl)) (rdA_tup (r1.append r2))
        · cases e
      · cases e
def pIadd (a b : PV) : Option PV := match a, b with
  | .d (.int i), .d (.int j) => some (.d (.int (i + j)))
  | .d (.str x), .d (.str y) => if x.length + y.length ≤ LIM then some (.d (.str (x ++ y))) else none
  | _, _ => none
theorem op_iadd : Op2Ok iaddO pIadd := fun {tl B n0 A env m pe s a b wa wb v} h ra rb e => by
  unfold pIadd at e
  split at e
  · rw [RdA.flat ra rfl, RdA.flat rb rfl]; cases e; exact op_d _ rfl (.d rfl)
  · rename_i x y
    rw [RdA.flat ra rfl, RdA.flat rb rfl]
    split at e
    · rename_i hl
      cases e
      exact op_d _ (show (if x.length + y.length ≤ LIM then some (Wd.d (.str (x ++ y)), m) else none) = _ by rw [if_pos hl]) (.d rfl)
    · cases e
  · cases e
theorem RdsA.rep {m : Mm} {A : List Nat} {ws : List Wd} {xs : List PyData} (r : RdsA m A ws xs) : ∀ n : Nat, RdsA m A (List.replicate n ws).flatten (List.replicate n xs).flatten
  | 0 => .nil
  | n + 1 => by
    rw [List.replicate_succ, List.replicate_succ, List.flatten_cons, List.flatten_cons]
    exact r.append (RdsA.rep r n)
def pMul (a b : PV) : Option PV := match a, b with
  | .d (.int i), .d (.int j) => if (small64 i || small64 j) = true then some (.d (.int (i * j))) else none
  | a, .d (.int k) => match lstP a with
    | some xs => if (-(2 ^ 63) ≤ k ∧ k < 2 ^ 63) ∧ xs.length * k.toNat ≤ LIM then some (.fr (.l (List.replicate k.toNat xs).flatten)) else none
    | _ => none
  | _, _ => none
theorem op_mul : Op2Ok mulO pMul := fun {tl B n0 A env m pe s a b wa wb v} h ra rb e => by
  unfold pMul at e
  split at e
  · rename_i i j
    rw [RdA.flat ra rfl, RdA.flat rb rfl]
    split at e
    · rename_i hl
      cases e
      exact op_d _ (show (if (small64 i || small64 j) = true then some (Wd.d (.int (i * j)), m) else none) = _ by rw [if_pos hl]) (.d rfl)
    · cases e
  · rename_i k _
    rw [RdA.flat rb rfl]
    split at e
    · rename_i xs e1
      obtain ⟨n, ws, q1, h1, r1⟩ := lst_ok h ra e1
      subst q1
      split at e
      · rename_i hl
        cases e
        have r : RdC m A (.lst (List.replicate k.toNat ws).flatten) (.l (List.replicate k.toNat xs).flatten) := r1.rep _
        refine ⟨_, _, ?_, nx_new r, fr_new h r (Nat.le_refl _)⟩
        show (match m.cells[n]? with
          | some (.lst xs) => if (-(2 ^ 63) ≤ k ∧ k < 2 ^ 63) ∧ xs.length * k.toNat ≤ LIM then some (Wd.ref m.cells.length, m.push (.lst (List.replicate k.toNat xs).flatten)) else none
          | _ => none) = _
        rw [show m.cells[n]? = some (.lst ws) from h1]
        exact if_pos (by rw [r1.length]; exact hl)
      · cases e
    · cases e
  · cases e
theorem toP_flat {m : Mm} {A : List Nat} {w : Wd} {x : PyData} (h : RdA m A w x) (hx : flatD x = true) : toP m 64 w = some x := by
  rw [h.flat hx]; rfl
theorem toP_rd {m : Mm} {A : List Nat} : ∀ (k : Nat) {w : Wd} {x : PyData}, RdA m A w x → x.canLay0 = true → x.depth ≤ k → toP m k w = some x := by
  intro k
  induction k with
  | zero =>
    intro w x h hc hd
    cases h with
    | d h => exact toP_d
    | tup _ => simp [PyData.depth] at hd
    | lst _ _ _ => simp [PyData.depth] at hd
    | dct _ _ _ => simp [PyData.canLay0] at hc
    | ndc _ _ _ _ => simp [PyData.canLay0] at hc
    | gdc _ _ _ => simp [PyData.canLay0] at hc
    | ins _ _ _ => simp [insD, PyData.canLay0] at hc
  | succ k ih =>
    have all : ∀ {ws : List Wd} {xs : List PyData}, RdsA m A ws xs → PyData.canLayAll0 xs = true → PyData.depthAll xs ≤ k → seqO (ws.map (toP m k)) = some xs := by
      intro ws
      induction ws with
      | nil => intro xs h _ _; cases h; rfl
      | cons w ws ihw =>
        intro xs h hc hd
        cases h with
        | cons h hs =>
          rw [PyData.canLayAll0, Bool.and_eq_true] at hc
          rw [PyData.depthAll] at hd
          rw [List.map_cons, ih h hc.1 (by omega)]
          show (seqO (ws.map (toP m k))).map _ = _
          rw [ihw hs hc.2 (by omega)]
          rfl
    intro w x h hc hd
    cases h with
    | d h => exact toP_d
    | @tup ws ds hs =>
      rw [PyData.canLay0] at hc
      rw [PyData.depth] at hd
      show (seqO (ws.map (toP m k))).map PyData.tuple = _
      rw [all hs hc (by omega)]
      rfl
    | @lst n ws ds hh _ hs =>
      rw [PyData.canLay0] at hc
      rw [PyData.depth] at hd
      show (match m.cells[n]? with
        | some (.lst xs) => (seqO (xs.map (toP m k))).map PyData.list
        | _ => none) = _
      rw [show m.cells[n]? = some (.lst ws) from hh]
      show (seqO (ws.map (toP m k))).map PyData.list = _
      rw [all hs hc (by omega)]
      rfl
    | dct _ _ _ => simp [PyData.canLay0] at hc
    | ndc _ _ _ _ => simp [PyData.canLay0] at hc
    | gdc _ _ _ => simp [PyData.canLay0] at hc
    | ins _ _ _ => simp [insD, PyData.canLay0] at hc
theorem scal_flat {x y : PyData} (h : scalD x y = true) : flatD x = true ∧ flatD y = true := by
  cases x <;> cases y <;> first | exact ⟨rfl, rfl⟩ | cases h
def pEqB (a b : PV) : Option Bool := match valP a, valP b with
  | some x, some y => if (scalD x y || (SeqAt.shaped x && SeqAt.shaped y)) = true then some (PyData.eqv x y) else none
  | _, _ => none
def pEq (a b : PV) : Option PV := (pEqB a b).map fun k => .d (.bool k)
def pNe (a b : PV) : Option PV := (pEqB a b).map fun k => .d (.bool !k)
theorem eqB_ok {tl : List (Str × Str)} {B : Lo} {n0 : Nat} {A : List Nat} {env : DL.Env} {m : Mm} {pe : PEnv} {s : Bg} {a b : PV} {wa wb : Wd} {k : Bool} (h : SR tl B n0 A env m pe s) (ra : VR pe env B A 0 m a wa) (rb : VR pe env B A 0 m b wb) (e : pEqB a b = some k) : eqB wa wb m = some k := by
  unfold pEqB at e
  split at e
  · rename_i x y e1 e2
    have r1 := val_ok h ra e1
    have r2 := val_ok h rb e2
    split at e
    · rename_i hs
      cases e
      have hs' := hs
      rw [Bool.or_eq_true, Bool.and_eq_true] at hs'
      have t1 : toP m 64 wa = some x := by
        rcases hs' with z | z
        · exact toP_flat r1 (scal_flat z).1
        · exact toP_rd 64 r1 (SeqAt.canLay_of_shaped z.1) (SeqAt.depth_of_shaped z.1)
      have t2 : toP m 64 wb = some y := by
        rcases hs' with z | z
        · exact toP_flat r2 (scal_flat z).2
        · exact toP_rd 64 r2 (SeqAt.canLay_of_shaped z.2) (SeqAt.depth_of_shaped z.2)
      unfold eqB
      rw [t1, t2]
      exact if_pos hs
    · cases e
  · cases e
theorem op_eq : Op2Ok eqO pEq := fun {tl B n0 A env m pe s a b wa wb v} h ra rb e => by
  obtain ⟨k, e1, e2⟩ := Option.map_eq_some_iff.mp e
  subst e2
  exact op_d _ (by unfold eqO; rw [eqB_ok h ra rb e1]) (.d rfl)
theorem op_ne : Op2Ok neO pNe := fun {tl B n0 A env m pe s a b wa wb v} h ra rb e => by
  obtain ⟨k, e1, e2⟩ := Option.map_eq_some_iff.mp e
  subst e2
  exact op_d _ (by unfold neO; rw [eqB_ok h ra rb e1]) (.d rfl)
def pInB (x y : PV) : Option Bool := match x, y with
  | .d (.str a), .d (.str z) => match a.cps.toList with
    | [c] => some (decide (c ∈ z.cps.toList))
    | _ => none
  | .d x, y => match seqP y with
    | some ys => if (flatD x && ys.all flatD) = true then some (ys.any fun z => PyData.eqv z x) else none
    | none => none
  | _, _ => none
def pIn (a b : PV) : Option PV := (pInB a b).map fun k => .d (.bool k)
def pNi (a b : PV) : Option PV := (pInB a b).map fun k => .d (.bool !k)
theorem RdsA.flat {m : Mm} {A : List Nat} : ∀ {ws : List Wd} {ds : List PyData}, RdsA m A ws ds → ds.all flatD = true → ws = ds.map .d
  | _, _, .nil, _ => rfl
  | _, _, .cons h hs, e => by
    rw [List.all_cons, Bool.and_eq_true] at e
    rw [h.flat e.1, RdsA.flat hs e.2]
    rfl
theorem inB_ok {tl : List (Str × Str)} {B : Lo} {n0 : Nat} {A : List Nat} {env : DL.Env} {m : Mm} {pe : PEnv} {s : Bg} {a b : PV} {wa wb : Wd} {k : Bool} (h : SR tl B n0 A env m pe s) (ra : VR pe env B A 0 m a wa) (rb : VR pe env B A 0 m b wb) (e : pInB a b = some k) : inB wa wb m = some k := by
  unfold pInB at e
  split at e
  · rw [RdA.flat ra rfl, RdA.flat rb rfl]
    exact e
  · rename_i x hne
    split at e
    · rename_i ys e1
      obtain ⟨ws, q, r⟩ := seq_ok h rb e1
      split at e
      · rename_i hf
        cases e
        rw [Bool.and_eq_true] at hf
        have ex := RdA.flat ra hf.1
        subst ex
        have ew := r.flat hf.2
        subst ew
        have g : inB (.d x) wb m = (match seqOf m wb with
          | some ys => if (flatW (.d x) && ys.all flatW) = true then some (ys.any fun z => eqvW z (.d x)) else none
          | none => none) := by
          unfold inB
          split
          · rename_i a' z' h1
            cases h1
            cases q
          · rfl
        rw [g, q]
        have h2 : (flatW (.d x) && (ys.map Wd.d).all flatW) = true := by
          rw [Bool.and_eq_true, List.all_map]
          exact ⟨hf.1, hf.2⟩
        simp only [h2, if_true, List.any_map]
        rfl
      · cases e
    · cases e
  · cases e
theorem op_in : Op2Ok inO pIn := fun {tl B n0 A env m pe s a b wa wb v} h ra rb e => by
  obtain ⟨k, e1, e2⟩ := Option.map_eq_some_iff.mp e
  subst e2
  exact op_d _ (by unfold inO; rw [inB_ok h ra rb e1]) (.d rfl)
theorem op_ni : Op2Ok niO pNi := fun {tl B n0 A env m pe s a b wa wb v} h ra rb e => by
  obtain ⟨k, e1, e2⟩ := Option.map_eq_some_iff.mp e
  subst e2
  exact op_d _ (by unfold niO; rw [inB_ok h ra rb e1]) (.d rfl)
def noneP : PV → Option Bool
  | .d .none => some true
  | .d _ => some false
  | .fr _ => some false
  | .bo _ _ => some false
  | .bag => none
  | .ob _ => none
def pIsN (x y : PV) : Option PV := match y with
  | .d .none => (noneP x).map fun k => .d (.bool k)
  | _ => none
def pNn (x y : PV) : Option PV := match y with
  | .d .none => (noneP x).map fun k => .d (.bool !k)
  | _ => none
theorem none_ok {tl : List (Str × Str)} {B : Lo} {n0 : Nat} {A : List Nat} {env : DL.Env} {m : Mm} {pe : PEnv} {s : Bg} {a : PV} {wa : Wd} {k : Bool} (h : SR tl B n0 A env m pe s) (ra : VR pe env B A 0 m a wa) (e : noneP a = some k) : isNoneW wa = some k := by
  cases a with
  | d x =>
    cases ra with
    | d h => cases x <;> (cases e; rfl)
    | tup _ => cases e; rfl
    | lst _ _ _ => cases e; rfl
    | dct _ _ _ => cases e; rfl
    | ndc _ _ _ _ => cases e; rfl
    | gdc _ _ _ => cases e; rfl
    | ins _ _ _ => cases e; rfl
  | fr c =>
    obtain ⟨n, cl, e1, _⟩ := ra
    subst e1
    cases e; rfl
  | bo i c =>
    obtain ⟨n, cl, e1, _⟩ := h.own _ _ ra.1
    have e2 := ra.2.symm.trans e1
    cases e2
    cases e; rfl
  | bag => cases e
  | ob k => cases e
theorem op_isN : Op2Ok isNO pIsN := fun {tl B n0 A env m pe s a b wa wb v} h ra rb e => by
  unfold pIsN at e
  split at e
  · obtain ⟨k, e1, e2⟩ := Option.map_eq_some_iff.mp e
    subst e2
    rw [RdA.flat rb rfl]
    exact op_d _ (by unfold isNO; simp only [none_ok h ra e1]) (.d rfl)
  · cases e
theorem op_nn : Op2Ok nnO pNn := fun {tl B n0 A env m pe s a b wa wb v} h ra rb e => by
  unfold pNn at e
  split at e
  · obtain ⟨k, e1, e2⟩ := Option.map_eq_some_iff.mp e
    subst e2
    rw [RdA.flat rb rfl]
    exact op_d _ (by unfold nnO; simp only [none_ok h ra e1]) (.d rfl)
  · cases e
def pIx (x y : PV) : Option PV := match x, y with
  | .d (.str z), .d (.int i) => if z.length ≤ LIM then (atI z.cps.toList i).map fun c => .d (.str ⟨#[c]⟩) else none
  | x, .d (.int i) => match seqP x with
    | some xs => (atI xs i).map .d
    | none => none
  | _, _ => none
theorem atI_get {α : Type} {xs : List α} {i : Int} {x : α} (h : atI xs i = some x) : ∃ k, ixN xs.length i = some k ∧ xs[k]? = some x := Option.bind_eq_some_iff.mp h
theorem op_ix : Op2Ok ixO pIx := fun {tl B n0 A env m pe s a b wa wb v} h ra rb e => by
  unfold pIx at e
  split at e
  · rename_i z i
    rw [RdA.flat ra rfl, RdA.flat rb rfl]
    split at e
    · rename_i hl
      obtain ⟨c, e1, e2⟩ := Option.map_eq_some_iff.mp e
      subst e2
      refine op_d (w := .d (.str ⟨#[c]⟩)) _ ?_ (.d rfl)
      show (if z.length ≤ LIM then (match atI z.cps.toList i with
        | some c => some (Wd.d (.str ⟨#[c]⟩), m)
        | none => none) else none) = _
      rw [if_pos hl, e1]
    · cases e
  · rename_i i hne
    rw [RdA.flat rb rfl]
    split at e
    · rename_i xs e1
      obtain ⟨x, e2, e3⟩ := Option.map_eq_some_iff.mp e
      subst e3
      obtain ⟨ws, q, r⟩ := seq_ok h ra e1
      obtain ⟨k, q1, q2⟩ := atI_get e2
      obtain ⟨w, q3, r3⟩ := r.get q2
      refine op_d (w := w) _ ?_ r3
      have q4 : atI ws i = some w := by
        unfold atI
        rw [r.length, q1]
        exact q3
      have g : ixO wa (.d (.int i)) m = (match seqOf m wa with
        | some xs => match atI xs i with
          | some w => some (w, m)
          | none => none
        | none => none) := by
        unfold ixO
        split
        · cases q
        · rename_i h1
          cases h1
          rfl
        · rename_i h1 h2
          exact absurd rfl (h1 i)
      rw [g, q]
      simp only [q4]
    · cases e
  · cases e
def cutL {α : Type} (xs : List α) (lo hi : Option Int) : List α := (xs.drop (HT.sIx xs.length 0 lo)).take (HT.sIx xs.length xs.length hi - HT.sIx xs.length 0 lo)
theorem RdsA.cutL {m : Mm} {A : List Nat} {ws : List Wd} {xs : List PyData} (r : RdsA m A ws xs) (lo hi : Option Int) : RdsA m A (cutW ws lo hi) (cutL xs lo hi) := by
  unfold PD.cutL cutW
  rw [r.length]
  exact (r.drop _).take _
def pCut (v : PV) (lo hi : Option Int) : Option PV := match v with
  | .d (.str z) => if z.length ≤ LIM then some (.d (.str (cutS z lo hi))) else none
  | v => match lstP v with
    | some xs => some (.fr (.l (cutL xs lo hi)))
    | none => match tupP v with
      | some xs => some (.d (.tuple (cutL xs lo hi)))
      | none => none
theorem slO_tup {w : Wd} {m : Mm} {xs : List Wd} {lo hi : Option Int} (h : tupOf w = some xs) : slO w lo hi m = some (mkTup (cutW xs lo hi), m) := by
  cases w with
  | d x => cases x with
    | tuple _ => cases h; rfl
    | _ => cases h
  | tup _ => cases h; rfl
  | _ => cases h
theorem cut_ok {tl : List (Str × Str)} {B : Lo} {n0 : Nat} {A : List Nat} {env : DL.Env} {m : Mm} {pe : PEnv} {s : Bg} {a : PV} {wa : Wd} {v : PV} {lo hi : Option Int} (h : SR tl B n0 A env m pe s) (ra : VR pe env B A 0 m a wa) (e : pCut a lo hi = some v) : ∃ w m', slO wa lo hi m = some (w, m') ∧ Nx m m' ∧ VR pe env B A m.cells.length m' v w := by
  unfold pCut at e
  split at e
  · rename_i z
    rw [RdA.flat ra rfl]
    split at e
    · rename_i hl
      cases e
      exact op_d _ (show (if z.length ≤ LIM then some (Wd.d (.str (cutS z lo hi)), m) else none) = _ by rw [if_pos hl]) (.d rfl)
    · cases e
  · split at e
    · rename_i xs e1
      cases e
      obtain ⟨n, ws, q1, h1, r1⟩ := lst_ok h ra e1
      subst q1
      have r : RdC m A (.lst (cutW ws lo hi)) (.l (cutL xs lo hi)) := r1.cutL lo hi
      refine ⟨_, _, ?_, nx_new r, fr_new h r (Nat.le_refl _)⟩
      show (match m.cells[n]? with
        | some (.lst xs) => some (Wd.ref m.cells.length, m.push (.lst (cutW xs lo hi)))
        | _ => none) = _
      rw [show m.cells[n]? = some (.lst ws) from h1]
    · split at e
      · rename_i xs e1
        cases e
        obtain ⟨ws, q1, r1⟩ := tup_ok ra e1
        exact op_d _ (slO_tup q1) (rdA_tup (r1.cutL lo hi))
      · cases e
def frzs : List PV → Option (List PyData)
  | [] => some []
  | v :: vs => match frz v, frzs vs with
    | some x, some xs => some (x :: xs)
    | _, _ => none
theorem frzs_ok {pe : PEnv} {env : DL.Env} {B : Lo} {A : List Nat} {m : Mm} (hB : ∀ k ∈ bagC B, k ∈ A) : ∀ {vs : List PV} {ws : List Wd} {xs : List PyData} {b0 : Nat}, VRs pe env B A b0 m vs ws → frzs vs = some xs → RdsA m A ws xs
  | [], [], xs, b0, _, e => by cases e; exact .nil
  | v :: vs, w :: ws, xs, b0, r, e => by
    obtain ⟨r1, r2⟩ := r.cons_inv hB
    unfold frzs at e
    split at e
    · rename_i x xs' e1 e2
      cases e
      exact .cons (frz_ok r1 e1) (frzs_ok hB r2 e2)
    · cases e
  | [], _ :: _, _, _, r, _ => r.elim
  | _ :: _, [], _, _, r, _ => r.elim
def pTup (vs : List PV) : Option PV := match frzs vs with
  | some xs => if xs.length ≤ LIM then some (.d (.tuple xs)) else none
  | none => none
def pLst (vs : List PV) : Option PV := match frzs vs with
  | some xs => if xs.length ≤ LIM then some (.fr (.l xs)) else none
  | none => none
theorem op_tup : OpNOk tupO pTup := fun {tl B n0 A env m pe s vs ws v} h r e => by
  unfold pTup at e
  split at e
  · rename_i xs e1
    have r1 := frzs_ok h.bag.sub r e1
    split at e
    · rename_i hl
      cases e
      exact op_d _ (by unfold tupO; rw [if_pos (by rw [r1.length]; exact hl)]) (rdA_tup r1)
    · cases e
  · cases e
theorem op_lst : OpNOk lstO pLst := fun {tl B n0 A env m pe s vs ws v} h r e => by
  unfold pLst at e
  split at e
  · rename_i xs e1
    have r1 := frzs_ok h.bag.sub r e1
    split at e
    · rename_i hl
      cases e
      have r2 : RdC m A (.lst ws) (.l xs) := r1
      exact ⟨_, _, by unfold lstO; rw [if_pos (by rw [r1.length]; exact hl)], nx_new r2, fr_new h r2 (Nat.le_refl _)⟩
    · cases e
  · cases e
/-- how many entries a dict has, the mark left out -/
def dlen : List (PyData × PyData) → Nat
  | (.bool true, .none) :: r => r.length
  | r => r.length
theorem rk_dlen {m : Mm} {A : List Nat} {b : Kt} {ws : List (PyData × Wd)} {ds : List (PyData × PyData)} (h : RdkA m A b ws ds) : dlen ds = ws.length := by
  rw [RdkA.length h]
  cases h with
  | nil => rfl
  | cons hk _ _ =>
    rename_i k w ws x xs _ _
    cases k with
    | bool c => cases b <;> cases hk
    | _ => rfl
/-- an object, as data -/
def isIns : List (PyData × PyData) → Bool
  | (.bool false, _) :: _ => true
  | _ => false
theorem rk_isIns {m : Mm} {A : List Nat} {b : Kt} {ws : List (PyData × Wd)} {ds : List (PyData × PyData)} (h : RdkA m A b ws ds) : isIns ds = false := by
  match ws, ds, h with
  | _, _, .nil => rfl
  | _, _, .cons (k := k) hk _ _ =>
    cases k with
    | bool v => cases b <;> cases hk
    | _ => rfl
def pLen (vs : List PV) : Option PV := match vs with
  | [.d (.str x)] => if x.length ≤ LIM then some (.d (.int x.length)) else none
  | [v] => match seqP v with
    | some xs => some (.d (.int xs.length))
    | none => match v with
      | .fr (.k kvs) => some (.d (.int kvs.length))
      | .fr (.n kvs) => some (.d (.int kvs.length))
      | .bo _ (.k kvs) => some (.d (.int kvs.length))
      | .bo _ (.n kvs) => some (.d (.int kvs.length))
      | .d (.dict kvs) => if isIns kvs = true then none else some (.d (.int (dlen kvs)))
      | .fr (.g kvs) => some (.d (.int kvs.length))
      | .bo _ (.g kvs) => some (.d (.int kvs.length))
      | _ => none
  | _ => none
theorem lenO_seq {m : Mm} {w : Wd} {xs : List Wd} (h : seqOf m w = some xs) : lenO [w] m = some (.d (.int xs.length), m) := by
  cases w with
  | d x => cases x with
    | tuple ds => cases h; rfl
    | _ => cases h
  | ref n =>
    have h' : (match m.cells[n]? with
      | some (.lst xs) => some xs
      | _ => none) = some xs := h
    show (match m.cells[n]? with
    | some (.lst xs) => some (Wd.d (.int xs.length), m)
    | some (.dct kvs) => some (.d (.int kvs.length), m)
    | some (.ndc kvs) => some (.d (.int kvs.length), m)
    | some (.gdc kvs) => some (.d (.int kvs.length), m)
    | _ => none) = _
    split at h'
    · rename_i hh
      cases h'
      rw [hh]
    · cases h'
  | tup ws => cases h; rfl
  | rol ws => cases h; rfl
  | v _ => cases h
theorem lenO_dct {m : Mm} {n : Nat} {kws : List (PyData × Wd)} (h : Has m n (.dct kws)) : lenO [.ref n] m = some (.d (.int kws.length), m) := by
  show (match m.cells[n]? with
    | some (.lst xs) => some (Wd.d (.int xs.length), m)
    | some (.dct kvs) => some (.d (.int kvs.length), m)
    | some (.ndc kvs) => some (.d (.int kvs.length), m)
    | some (.gdc kvs) => some (.d (.int kvs.length), m)
    | _ => none) = _
  rw [show m.cells[n]? = some (.dct kws) from h]
theorem lenO_ndc {m : Mm} {n : Nat} {kws : List (PyData × Wd)} (h : Has m n (.ndc kws)) : lenO [.ref n] m = some (.d (.int kws.length), m) := by
  show (match m.cells[n]? with
    | some (.lst xs) => some (Wd.d (.int xs.length), m)
    | some (.dct kvs) => some (.d (.int kvs.length), m)
    | some (.ndc kvs) => some (.d (.int kvs.length), m)
    | some (.gdc kvs) => some (.d (.int kvs.length), m)
    | _ => none) = _
  rw [show m.cells[n]? = some (.ndc kws) from h]
theorem lenO_gdc {m : Mm} {n : Nat} {kws : List (PyData × Wd)} (h : Has m n (.gdc kws)) : lenO [.ref n] m = some (.d (.int kws.length), m) := by
  show (match m.cells[n]? with
    | some (.lst xs) => some (Wd.d (.int xs.length), m)
    | some (.dct kvs) => some (.d (.int kvs.length), m)
    | some (.ndc kvs) => some (.d (.int kvs.length), m)
    | some (.gdc kvs) => some (.d (.int kvs.length), m)
    | _ => none) = _
  rw [show m.cells[n]? = some (.gdc kws) from h]
theorem op_len : OpNOk lenO pLen := fun {tl B n0 A env m pe s vs ws v} h r e => by
  unfold pLen at e
  split at e
  · rename_i x
    obtain ⟨w, q, r1⟩ := vrs1 h.bag.sub r
    subst q
    rw [RdA.flat r1 rfl]
    split at e
    · rename_i hl
      cases e
      exact op_d _ (show (if x.length ≤ LIM then some (Wd.d (.int x.length), m) else none) = _ by rw [if_pos hl]) (.d rfl)
    · cases e
  · rename_i v0 _
    obtain ⟨w, q, r1⟩ := vrs1 h.bag.sub r
    subst q
    split at e
    · rename_i xs e1
      cases e
      obtain ⟨ws, q1, r2⟩ := seq_ok h r1 e1
      exact op_d _ (by rw [lenO_seq q1, r2.length]) (.d rfl)
    · split at e
      · cases e
        obtain ⟨n, cl, e1, _, _, h3, h4⟩ := r1
        subst e1
        cases cl with
        | dct kws => exact op_d _ (by rw [lenO_dct h3, RdkA.length h4]) (.d rfl)
        | _ => exact h4.elim
      · cases e
        obtain ⟨n, cl, e1, _, _, h3, h4⟩ := r1
        subst e1
        cases cl with
        | ndc kws => exact op_d _ (by rw [lenO_ndc h3, RdkA.length h4.1]) (.d rfl)
        | _ => exact h4.elim
      · cases e
        obtain ⟨n, cl, e1, _, _, _, h3, h4⟩ := h.own _ _ r1.1
        have e2 := r1.2.symm.trans e1
        cases e2
        cases cl with
        | dct kws => exact op_d _ (by rw [lenO_dct h3, RdkA.length h4]) (.d rfl)
        | _ => exact h4.elim
      · cases e
        obtain ⟨n, cl, e1, _, _, _, h3, h4⟩ := h.own _ _ r1.1
        have e2 := r1.2.symm.trans e1
        cases e2
        cases cl with
        | ndc kws => exact op_d _ (by rw [lenO_ndc h3, RdkA.length h4.1]) (.d rfl)
        | _ => exact h4.elim
      · cases r1 with
        | d h => cases h
        | dct hh hn hs =>
          rw [if_neg (by rw [rk_isIns hs]; decide)] at e
          cases e
          exact op_d _ (by rw [lenO_dct hh, rk_dlen hs]) (.d rfl)
        | ndc hh hn hs _ =>
          rw [if_neg (by rw [rk_isIns hs]; decide)] at e
          cases e
          exact op_d _ (by rw [lenO_ndc hh, rk_dlen hs]) (.d rfl)
        | gdc hh hn hs =>
          rw [if_neg (show ¬ (isIns (gmk :: _) = true) from Bool.false_ne_true)] at e
          cases e
          exact op_d _ (by rw [lenO_gdc hh, RdkA.length hs]; rfl) (.d rfl)
        | ins hh hn hs =>
          cases e
      · cases e
        obtain ⟨n, cl, e1, _, _, h3, h4⟩ := r1
        subst e1
        cases cl with
        | gdc kws => exact op_d _ (by rw [lenO_gdc h3, RdkA.length h4]) (.d rfl)
        | _ => exact h4.elim
      · cases e
        obtain ⟨n, cl, e1, _, _, _, h3, h4⟩ := h.own _ _ r1.1
        have e2 := r1.2.symm.trans e1
        cases e2
        cases cl with
        | gdc kws => exact op_d _ (by rw [lenO_gdc h3, RdkA.length h4]) (.d rfl)
        | _ => exact h4.elim
      · cases e
  · cases e
def pAbs (vs : List PV) : Option PV := match vs with
  | [.d (.int i)] => some (.d (.int (if i < 0 then -i else i)))
  | _ => none
def pInt1 (vs : List PV) : Option PV := match vs with
  | [.d (.int i)] => some (.d (.int i))
  | [.d (.bool b)] => some (.d (.int (if b then 1 else 0)))
  | _ => none
theorem op_int1 : OpNOk intO1 pInt1 := fun {tl B n0 A env m pe s vs ws v} h r e => by
  unfold pInt1 at e
  split at e
  · obtain ⟨w, q, r1⟩ := vrs1 h.bag.sub r
    subst q
    rw [RdA.flat r1 rfl]
    cases e
    exact op_d _ rfl (.d rfl)
  · obtain ⟨w, q, r1⟩ := vrs1 h.bag.sub r
    subst q
    rw [RdA.flat r1 rfl]
    cases e
    exact op_d _ rfl (.d rfl)
  · cases e
def pList (vs : List PV) : Option PV := match vs with
  | [v] => (seqP v).map fun xs => .fr (.l xs)
  | _ => none
def pTuple (vs : List PV) : Option PV := match vs with
  | [v] => (seqP v).map fun xs => .d (.tuple xs)
  | _ => none
theorem op_tuple : OpNOk tupleO pTuple := fun {tl B n0 A env m pe s vs ws v} h r e => by
  unfold pTuple at e
  split at e
  · obtain ⟨xs, e1, e2⟩ := Option.map_eq_some_iff.mp e
    subst e2
    obtain ⟨w, q, r1⟩ := vrs1 h.bag.sub r
    subst q
    obtain ⟨us, q1, r2⟩ := seq_ok h r1 e1
    exact op_d _ (by unfold tupleO; simp only [q1]) (rdA_tup r2)
  · cases e
def boolsP : List PyData → Option (List Bool)
  | [] => some []
  | .bool b :: r => (boolsP r).map (b :: ·)
  | _ :: _ => none
theorem bools_ok {m : Mm} {A : List Nat} : ∀ {ws : List Wd} {xs : List PyData} {bs : List Bool}, RdsA m A ws xs → boolsP xs = some bs → boolsW ws = some bs
  | _, _, bs, .nil, e => by cases e; rfl
  | w :: ws, x :: xs, bs, .cons h hs, e => by
    cases x with
    | bool b =>
      rw [h.flat rfl]
      have e' : (boolsP xs).map (b :: ·) = some bs := e
      obtain ⟨r, e1, e2⟩ := Option.map_eq_some_iff.mp e'
      show (boolsW ws).map (b :: ·) = some bs
      rw [bools_ok hs e1]
      exact congrArg some e2
    | _ => cases e
def pAll (vs : List PV) : Option PV := match vs with
  | [v] => match lstP v with
    | some xs => (boolsP xs).map fun bs => .d (.bool (bs.all id))
    | none => none
  | _ => none
theorem op_all : OpNOk allO pAll := fun {tl B n0 A env m pe s vs ws v} h r e => by
  unfold pAll at e
  split at e
  · split at e
    · rename_i xs e1
      obtain ⟨bs, e2, e3⟩ := Option.map_eq_some_iff.mp e
      subst e3
      obtain ⟨w, q, r1⟩ := vrs1 h.bag.sub r
      subst q
      obtain ⟨n, us, q1, h1, r2⟩ := lst_ok h r1 e1
      subst q1
      refine op_d (w := .d (.bool (bs.all id))) _ ?_ (.d rfl)
      unfold allO
      simp only [show m.cells[n]? = some (.lst us) from h1, bools_ok r2 e2]
    · cases e
  · cases e
def strsP : List PyData → Option (List Str)
  | [] => some []
  | .str b :: r => (strsP r).map (b :: ·)
  | _ :: _ => none
def intsP : List PyData → Option (List Int)
  | [] => some []
  | .int b :: r => (intsP r).map (b :: ·)
  | _ :: _ => none
theorem strs_ok {m : Mm} {A : List Nat} : ∀ {ws : List Wd} {xs : List PyData} {bs : List Str}, RdsA m A ws xs → strsP xs = some bs → strsW ws = some bs
  | _, _, bs, .nil, e => by cases e; rfl
  | w :: ws, x :: xs, bs, .cons h hs, e => by
    cases x with
    | str b =>
      rw [h.flat rfl]
      have e' : (strsP xs).map (b :: ·) = some bs := e
      obtain ⟨r, e1, e2⟩ := Option.map_eq_some_iff.mp e'
      show (strsW ws).map (b :: ·) = some bs
      rw [strs_ok hs e1]
      exact congrArg some e2
    | _ => cases e
theorem rds_ints {m : Mm} {A : List Nat} (l : List Int) : RdsA m A (l.map fun x => .d (.int x)) (l.map .int) := by
  induction l with
  | nil => exact .nil
  | cons a l ih => exact .cons (.d rfl) ih
theorem RdsA.zip {m : Mm} {A : List Nat} : ∀ {ws us : List Wd} {xs ys : List PyData}, RdsA m A ws xs → RdsA m A us ys → RdsA m A ((ws.zip us).map fun p => mkTup [p.1, p.2]) ((xs.zip ys).map fun p => .tuple [p.1, p.2])
  | [], _, _, _, .nil, _ => .nil
  | _ :: _, [], _, _, .cons _ _, .nil => .nil
  | _ :: _, _ :: _, _, _, .cons h hs, .cons g gs => .cons (rdA_tup (.cons h (.cons g .nil))) (RdsA.zip hs gs)
def pLz (vs : List PV) : Option PV := match vs with
  | [a, b] => match lstP a, lstP b with
    | some xs, some ys => some (.fr (.l ((xs.zip ys).map fun p => .tuple [p.1, p.2])))
    | _, _ => match tupP a, tupP b with
      | some xs, some ys => some (.fr (.l ((xs.zip ys).map fun p => .tuple [p.1, p.2])))
      | _, _ => none
  | _ => none
theorem tup_lw {w : Wd} {xs : List Wd} (h : tupOf w = some xs) : isLW w = false := by
  cases w with
  | d x => rfl
  | tup _ => rfl
  | _ => cases h
theorem op_lz : OpNOk lzO pLz := fun {tl B n0 A env m pe s vs ws v} h r e => by
  unfold pLz at e
  split at e
  · obtain ⟨w, w', q, r1, r2⟩ := vrs2 h.bag.sub r
    subst q
    split at e
    · rename_i xs ys e1 e2
      cases e
      obtain ⟨n, us, q1, h1, r3⟩ := lst_ok h r1 e1
      obtain ⟨k, zs, q2, h2, r4⟩ := lst_ok h r2 e2
      subst q1 q2
      have r5 : RdC m A (.lst ((us.zip zs).map fun p => mkTup [p.1, p.2])) (.l ((xs.zip ys).map fun p => .tuple [p.1, p.2])) := r3.zip r4
      refine ⟨_, _, ?_, nx_new r5, fr_new h r5 (Nat.le_refl _)⟩
      unfold lzO
      simp only [isLW, s_ref h1, s_ref h2]
      rfl
    · split at e
      · rename_i xs ys e1 e2
        cases e
        obtain ⟨us, q1, r3⟩ := tup_ok r1 e1
        obtain ⟨zs, q2, r4⟩ := tup_ok r2 e2
        have r5 : RdC m A (.lst ((us.zip zs).map fun p => mkTup [p.1, p.2])) (.l ((xs.zip ys).map fun p => .tuple [p.1, p.2])) := r3.zip r4
        refine ⟨_, _, ?_, nx_new r5, fr_new h r5 (Nat.le_refl _)⟩
        unfold lzO
        simp only [tup_lw q1, tup_lw q2, tupOf_seq q1, tupOf_seq q2]
        rfl
      · cases e
  · cases e
end PD
set_option Elab.async false
set_option linter.all false
set_option maxRecDepth 100000
set_option maxHeartbeats 2000000
namespace PD
open PySem PySem.Spec PyProof.Rows L2 DL
def truP : PV → Option Bool
  | .d .none => some false
  | .d (.bool b) => some b
  | .d (.int i) => some (i != 0)
  | .d (.str x) => if x.length ≤ LIM then some ((x.length : Int) != 0) else none
  | .d (.tuple xs) => some (!xs.isEmpty)
  | .d (.list xs) => some (!xs.isEmpty)
  | .fr (.l xs) => some (!xs.isEmpty)
  | .bo _ (.l xs) => some (!xs.isEmpty)
  | .fr (.k xs) => some (!xs.isEmpty)
  | .bo _ (.k xs) => some (!xs.isEmpty)
  | _ => none
def tyP : PV → Option String
  | .d (.dict _) => none
  | .d x => some (tyD x)
  | .fr (.n _) => none
  | .fr (.g _) => none
  | .fr c => some (tyD c.toD)
  | .bo _ (.n _) => none
  | .bo _ (.g _) => none
  | .bo _ c => some (tyD c.toD)
  | .bag => none
  | .ob _ => none
def Co.emp : Co → Bool
  | .l xs => xs.isEmpty
  | .k xs => xs.isEmpty
  | .n xs => xs.isEmpty
  | .g xs => xs.isEmpty
def boolP : PV → Option Bool
  | .d (.bool b) => some b
  | _ => none
section
variable {tl : List (Str × Str)} {B : Lo} {n0 b0 b1 : Nat} {A : List Nat} {env : DL.Env} {m m' m1 : Mm} {pe : PEnv} {s s' : Bg} {v : PV} {w : Wd} {vs : List PV} {ws : List Wd}
theorem isEmpty_len {α β : Type} {xs : List α} {ys : List β} (h : xs.length = ys.length) : xs.isEmpty = ys.isEmpty := by
  cases xs <;> cases ys <;> first | rfl | cases h
/-- the cell of one that is a list or a dict -/
theorem cell_ok (h : SR tl B n0 A env m pe s) (r : VR pe env B A b0 m v w) {c : Co} (e : v = .fr c ∨ (∃ i, v = .bo i c) ∨ ∃ xs, c = .l xs ∧ v = .d (.list xs)) : ∃ n cl, w = .ref n ∧ Has m n cl ∧ RdC m A cl c := by
  rcases e with e | ⟨i, e⟩ | ⟨xs, ec, e⟩
  · subst e
    obtain ⟨n, cl, e1, _, _, h3, h4⟩ := r
    exact ⟨n, cl, e1, h3, h4.dropA⟩
  · subst e
    obtain ⟨n, cl, e1, _, _, _, h3, h4⟩ := h.own _ _ r.1
    have e2 := r.2.symm.trans e1
    cases e2
    exact ⟨n, cl, rfl, h3, h4⟩
  · subst e ec
    obtain ⟨n, ws, e1, h1, _, h2⟩ := RdA.lstI r
    exact ⟨n, _, e1, h1, h2⟩
def Co.notN : Co → Bool
  | .n _ => false
  | .g _ => false
  | _ => true
theorem tru_cell {n : Nat} {cl : Cell} {c : Co} (hn : c.notN = true) (h : Has m n cl) (r : RdC m A cl c) : truO (.ref n) m = some (!c.emp) := by
  show (match m.cells[n]? with
    | some (.lst xs) => some (!xs.isEmpty)
    | some (.dct kvs) => some (!kvs.isEmpty)
    | _ => none) = _
  rw [show m.cells[n]? = some cl from h]
  cases cl with
  | lst ws => cases c with
    | l xs => show some _ = some _; rw [isEmpty_len (RdsA.length r)]; rfl
    | _ => exact r.elim
  | dct ws => cases c with
    | k xs => show some _ = some _; rw [isEmpty_len (RdkA.length r)]; rfl
    | _ => exact r.elim
  | ndc ws => cases c with
    | n xs => cases hn
    | _ => exact r.elim
  | gdc ws => cases c with
    | g xs => cases hn
    | _ => exact r.elim
  | ins _ _ => exact r.elim
  | tab _ _ => exact r.elim
theorem tru_ok (h : SR tl B n0 A env m pe s) (r : VR pe env B A b0 m v w) {k : Bool} (e : truP v = some k) : truO w m = some k := by
  have cc : ∀ (c : Co), c.notN = true → (v = .fr c ∨ (∃ i, v = .bo i c) ∨ ∃ xs, c = .l xs ∧ v = .d (.list xs)) → truO w m = some (!c.emp) := fun c hn hc => by
    obtain ⟨n, cl, e1, h1, h2⟩ := cell_ok h r hc
    subst e1
    exact tru_cell hn h1 h2
  unfold truP at e
  split at e
  · rw [RdA.flat r rfl]; exact e
  · rw [RdA.flat r rfl]; exact e
  · rw [RdA.flat r rfl]; exact e
  · rw [RdA.flat r rfl]; exact e
  · cases e
    cases r with
    | d _ => rfl
    | tup hs => show some _ = some _; rw [isEmpty_len hs.length]
  · cases e; exact cc (.l _) rfl (.inr (.inr ⟨_, rfl, rfl⟩))
  · cases e; exact cc (.l _) rfl (.inl rfl)
  · cases e; exact cc (.l _) rfl (.inr (.inl ⟨_, rfl⟩))
  · cases e; exact cc (.k _) rfl (.inl rfl)
  · cases e; exact cc (.k _) rfl (.inr (.inl ⟨_, rfl⟩))
  · cases e
theorem ty_cell {n : Nat} {cl : Cell} {c : Co} (hn : c.notN = true) (h : Has m n cl) (r : RdC m A cl c) : tyName m (.ref n) = some (tyD c.toD) := by
  show (match m.cells[n]? with
    | some (.lst _) => some "list"
    | some (.dct _) => some "dict"
    | _ => none) = _
  rw [show m.cells[n]? = some cl from h]
  cases cl with
  | lst ws => cases c with
    | l xs => rfl
    | _ => exact r.elim
  | dct ws => cases c with
    | k xs => rfl
    | _ => exact r.elim
  | ndc ws => cases c with
    | n xs => cases hn
    | _ => exact r.elim
  | gdc ws => cases c with
    | g xs => cases hn
    | _ => exact r.elim
  | ins _ _ => exact r.elim
  | tab _ _ => exact r.elim
theorem ty_ok (h : SR tl B n0 A env m pe s) (r : VR pe env B A b0 m v w) {t : String} (e : tyP v = some t) : tyName m w = some t := by
  cases v with
  | d x =>
    cases r with
    | d h => cases x <;> first | (cases e; rfl) | cases h
    | tup _ => cases e; rfl
    | lst hh _ hs => cases e; exact ty_cell (c := .l _) rfl hh hs
    | dct hh _ hs => cases e
    | ndc hh _ hs _ => cases e
    | gdc hh _ hs => cases e
    | ins hh _ hs => cases e
  | fr c =>
    obtain ⟨n, cl, e1, h1, h2⟩ := cell_ok h r (.inl rfl)
    subst e1
    cases c with
    | n _ => cases e
    | g _ => cases e
    | l _ => cases e; exact ty_cell rfl h1 h2
    | k _ => cases e; exact ty_cell rfl h1 h2
  | bo i c =>
    obtain ⟨n, cl, e1, h1, h2⟩ := cell_ok h r (.inr (.inl ⟨_, rfl⟩))
    subst e1
    cases c with
    | n _ => cases e
    | g _ => cases e
    | l _ => cases e; exact ty_cell rfl h1 h2
    | k _ => cases e; exact ty_cell rfl h1 h2
  | bag => cases e
  | ob _ => cases e
theorem bool_ok (r : VR pe env B A b0 m v w) {k : Bool} (e : boolP v = some k) : asB w = some k := by
  unfold boolP at e
  split at e
  · rw [RdA.flat r rfl]; exact e
  · cases e
end
def pIsi (Ts : List String) (v : PV) : Option PV := (tyP v).map fun a => .d (.bool (Ts.any (isT a)))
theorem op_isi {Ts : List String} : Op1Ok (isiO Ts) (pIsi Ts) := fun {tl B n0 A env m pe s a wa v} h ra e => by
  obtain ⟨t, e1, e2⟩ := Option.map_eq_some_iff.mp e
  subst e2
  exact op_d _ (by unfold isiO; rw [ty_ok h ra e1]) (.d rfl)
def b2P (p : PV → PV → Option PV) (ga gb : Pe PV) : Pe Bool := fun e s => (p2 p ga gb e s).bind fun w s => PR.of (boolP w) s
def bVP (g : Pe PV) : Pe Bool := fun e s => (g e s).bind fun w s => PR.of (truP w) s
def bAndP (f g : Pe Bool) : Pe Bool := fun e s => (f e s).bind fun b s => if b = true then g e s else .ok false s
def bOrP (f g : Pe Bool) : Pe Bool := fun e s => (f e s).bind fun b s => if b = true then .ok true s else g e s
def bNotP (f : Pe Bool) : Pe Bool := fun e s => (f e s).bind fun b s => .ok (!b) s
def bTrueP : Pe Bool := fun _ s => .ok true s
def pIf (c : Pe Bool) (f g : Pe PV) : Pe PV := fun e s => (c e s).bind fun b s => if b = true then f e s else g e s
def pAndE (f g : Pe PV) : Pe PV := fun e s => (f e s).bind fun w s => match truP w with
  | some true => g e s
  | some false => .ok w s
  | none => .stuck
def pOrE (f g : Pe PV) : Pe PV := fun e s => (f e s).bind fun w s => match truP w with
  | some true => .ok w s
  | some false => g e s
  | none => .stuck
def pNotE (f : Pe PV) : Pe PV := fun e s => (f e s).bind fun w s => match truP w with
  | some b => .ok (.d (.bool (!b))) s
  | none => .stuck
def pCh (p p' : PV → PV → Option PV) (fa fb fc : Pe PV) : Pe PV := fun e s => (fa e s).bind fun a s => (fb e s).bind fun b s => (PR.of (p a b) s).bind fun z s => match boolP z with
  | some k => if k = true then (fc e s).bind fun c s => PR.of (p' b c) s else .ok (.d (.bool false)) s
  | none => .stuck
def bChP (p p' : PV → PV → Option PV) (fa fb fc : Pe PV) : Pe Bool := fun e s => (pCh p p' fa fb fc e s).bind fun w s => PR.of (boolP w) s
def oNoneP : Pe (Option Int) := fun _ s => .ok none s
def oSomeP (f : Pe PV) : Pe (Option Int) := fun e s => (f e s).bind fun w s => match w with
  | .d (.int i) => .ok (some i) s
  | _ => .stuck
def pSl (f : Pe PV) (lo hi : Pe (Option Int)) : Pe PV := fun e s => (f e s).bind fun w s => (lo e s).bind fun l s => (hi e s).bind fun h s => PR.of (pCut w l h) s
def revP (v : PV) : Option PV := match lstP v with
  | some xs => some (.fr (.l xs.reverse))
  | none => match tupP v with
    | some xs => some (.d (.tuple xs.reverse))
    | none => none
def pRv (f : Pe PV) : Pe PV := fun e s => (f e s).bind fun w s => PR.of (revP w) s
def joinP (a : Str) (v : PV) : Option PV := match seqP v with
  | some xs => match strsP xs with
    | some ys => if (ys.map (·.length)).sum + ys.length * a.length ≤ 16777216 then some (.d (.str (Txt.join a ys))) else none
    | none => none
  | none => none
def pJoin (fo fe : Pe PV) : Pe PV := fun e s => (fo e s).bind fun w s => match w with
  | .d (.str a) => (fe e s).bind fun y s => PR.of (joinP a y) s
  | _ => .stuck
/-- *e in a display -/
def paS (f : Pe PV) (r : Pe (List PV)) : Pe (List PV) := fun e s => (f e s).bind fun w s => match seqP w with
  | some xs => (r e s).bind fun ys s => .ok (xs.map .d ++ ys) s
  | none => .stuck
section
variable {tl : List (Str × Str)} {B : Lo} {n0 b0 b1 : Nat} {A : List Nat} {env : DL.Env} {m m' m1 : Mm} {pe : PEnv} {s s' : Bg}
variable {g ga gb gc : Pe PV} {f fa fb fc : Em Wd} {t t' : Pe Bool} {c c' : Em Bool}
theorem eqT : ∀ (b0 b1 : Nat) (m : Mm) (v w : Bool), b1 ≤ b0 → v = w → v = w := fun _ _ _ _ _ _ h => h
theorem sim_b2 {o : Op2} {p : PV → PV → Option PV} (ho : Op2Ok o p) (ha : SimE tl ga fa) (hb : SimE tl gb fb) : SimT tl (b2P p ga gb) (b2 o fa fb) := fun B n0 A env m pe s h =>
  (sim_2 ho ha hb B n0 A env m pe s h).bind eqT fun a wa m1 s1 f1 w1 b1 r1 => by
    cases e : boolP a with
    | none => trivial
    | some k =>
      rw [bool_ok r1 e]
      exact relE_of (h.step f1 w1 b1) (.inl rfl) rfl
theorem sim_bV (ha : SimE tl ga fa) : SimT tl (bVP ga) (bV fa) := fun B n0 A env m pe s h =>
  (ha B n0 A env m pe s h).bind eqT fun a wa m1 s1 f1 w1 b1 r1 => by
    have h1 := h.step f1 w1 b1
    cases e : truP a with
    | none => trivial
    | some k =>
      rw [tru_ok h1 r1 e]
      exact relE_of h1 (.inl rfl) rfl
theorem sim_bAnd (h1 : SimT tl t c) (h2 : SimT tl t' c') : SimT tl (bAndP t t') (bAnd c c') := fun B n0 A env m pe s h =>
  (h1 B n0 A env m pe s h).bind eqT fun a wa m1 s1 f1 w1 b1 r1 => by
    subst r1
    have h3 := h.step f1 w1 b1
    cases a with
    | true => exact h2 B n0 A env m1 pe s1 h3
    | false => exact relE_of h3 (.inl rfl) rfl
theorem sim_bOr (h1 : SimT tl t c) (h2 : SimT tl t' c') : SimT tl (bOrP t t') (bOr c c') := fun B n0 A env m pe s h =>
  (h1 B n0 A env m pe s h).bind eqT fun a wa m1 s1 f1 w1 b1 r1 => by
    subst r1
    have h3 := h.step f1 w1 b1
    cases a with
    | false => exact h2 B n0 A env m1 pe s1 h3
    | true => exact relE_of h3 (.inl rfl) rfl
theorem sim_bNot (h1 : SimT tl t c) : SimT tl (bNotP t) (bNot c) := fun B n0 A env m pe s h =>
  (h1 B n0 A env m pe s h).bind eqT fun a wa m1 s1 f1 w1 b1 r1 => by
    subst r1
    exact relE_of (h.step f1 w1 b1) (.inl rfl) rfl
theorem sim_bTrue : SimT tl bTrueP (fun _ m => .ok true m) := fun B n0 A env m pe s h => relE_of h (.inl rfl) rfl
theorem baseV : ∀ (b0 b1 : Nat) (m : Mm) (v : PV) (w : Wd), b1 ≤ b0 → VR pe env B A b0 m v w → VR pe env B A b1 m v w := fun _ _ _ _ _ hb h => h.base hb
theorem sim_If (h1 : SimT tl t c) (ha : SimE tl ga fa) (hb : SimE tl gb fb) : SimE tl (pIf t ga gb) (eIf c fa fb) := fun B n0 A env m pe s h =>
  (h1 B n0 A env m pe s h).bind baseV fun a wa m1 s1 f1 w1 b1 r1 => by
    subst r1
    have h3 := h.step f1 w1 b1
    cases a with
    | true => exact ha B n0 A env m1 pe s1 h3
    | false => exact hb B n0 A env m1 pe s1 h3
theorem sim_And (ha : SimE tl ga fa) (hb : SimE tl gb fb) : SimE tl (pAndE ga gb) (eAnd fa fb) := fun B n0 A env m pe s h =>
  (ha B n0 A env m pe s h).bindS fun a wa m1 s1 f1 w1 b1 r1 => by
    have h1 := h.step f1 w1 b1.1
    cases e : truP a with
    | none => simp only [e]; trivial
    | some k =>
      simp only [e, tru_ok h1 r1 e]
      cases k with
      | true => exact (hb B n0 A env m1 pe s1 h1).mono fun m' v w f _ r => r.base f1.le
      | false => exact ⟨_, m1, rfl, .refl, w1, b1, r1⟩
theorem sim_Or (ha : SimE tl ga fa) (hb : SimE tl gb fb) : SimE tl (pOrE ga gb) (eOr fa fb) := fun B n0 A env m pe s h =>
  (ha B n0 A env m pe s h).bindS fun a wa m1 s1 f1 w1 b1 r1 => by
    have h1 := h.step f1 w1 b1.1
    cases e : truP a with
    | none => simp only [e]; trivial
    | some k =>
      simp only [e, tru_ok h1 r1 e]
      cases k with
      | false => exact (hb B n0 A env m1 pe s1 h1).mono fun m' v w f _ r => r.base f1.le
      | true => exact ⟨_, m1, rfl, .refl, w1, b1, r1⟩
theorem sim_Ch {o o' : Op2} {p p' : PV → PV → Option PV} (ho : Op2Ok o p) (ho' : Op2Ok o' p') (ha : SimE tl ga fa) (hb : SimE tl gb fb) (hc : SimE tl gc fc) : SimE tl (pCh p p' ga gb gc) (eCh o o' fa fb fc) := fun B n0 A env m pe s h =>
  (ha B n0 A env m pe s h).bind baseV fun a wa m1 s1 f1 w1 b1 r1 => by
    have h1 := h.step f1 w1 b1
    refine (hb B n0 A env m1 pe s1 h1).bind baseV fun b wb m2 s2 f2 w2 b2 r2 => ?_
    have h2 := h1.step f2 w2 b2
    cases e : p a b with
    | none => trivial
    | some z =>
      obtain ⟨wz, m3, e1, nx, r3⟩ := ho h2 ((r1.step h.bag.sub f2).base (Nat.zero_le _)) (r2.base (Nat.zero_le _)) e
      have f3 : Fr (bagC B) m2 m3 := nx.fr0.any
      have h3 := h2.step f3 (nx.wf h2.wf) (h2.bag.fr0 nx.fr0)
      rw [e1]
      simp only [PR.of_some, PR.bind_ok, Rs.of, Rs.bind_ok]
      cases e3 : boolP z with
      | none => trivial
      | some k =>
        rw [bool_ok r3 e3]
        simp only []
        cases k with
        | false => exact ⟨_, m3, rfl, f3, h3.wf, ⟨h3.bag, h3.bag⟩, .d rfl⟩
        | true =>
          have g : RelE (VR pe env B A) B A m3 ((gc pe s2).bind fun c s => PR.of (p' b c) s) ((fc env m3).bind fun c m => Rs.of (o' wb c m)) := by
            refine (hc B n0 A env m3 pe s2 h3).bind baseV fun c wc m4 s4 f4 w4 b4 r4 => ?_
            have h4 := h3.step f4 w4 b4
            cases e5 : p' b c with
            | none => trivial
            | some v =>
              obtain ⟨w5, m5, e6, nx5, r5⟩ := ho' h4 (((r2.step h.bag.sub f3).step h.bag.sub f4).base (Nat.zero_le _)) (r4.base (Nat.zero_le _)) e5
              rw [e6]
              exact relE_of h4 nx5 r5
          have g2 : RelE (VR pe env B A) B A m2 ((gc pe s2).bind fun c s => PR.of (p' b c) s) ((fc env m3).bind fun c m => Rs.of (o' wb c m)) := by
            cases e7 : (gc pe s2).bind fun c s => PR.of (p' b c) s with
            | stuck => trivial
            | ok v s' =>
              rw [e7] at g
              obtain ⟨w, m', e8, f8, w8, b8, r8⟩ := g
              exact ⟨w, m', e8, f3.trans f8, w8, b8, r8.base f3.le⟩
            | exc x s' =>
              rw [e7] at g
              obtain ⟨w, m', e8, f8, w8, b8, r8⟩ := g
              exact ⟨w, m', e8, f3.trans f8, w8, b8, r8⟩
          exact g2
theorem sim_bCh {o o' : Op2} {p p' : PV → PV → Option PV} (ho : Op2Ok o p) (ho' : Op2Ok o' p') (ha : SimE tl ga fa) (hb : SimE tl gb fb) (hc : SimE tl gc fc) : SimT tl (bChP p p' ga gb gc) (bCh o o' fa fb fc) := fun B n0 A env m pe s h =>
  (sim_Ch ho ho' ha hb hc B n0 A env m pe s h).bind eqT fun a wa m1 s1 f1 w1 b1 r1 => by
    cases e : boolP a with
    | none => trivial
    | some k =>
      rw [bool_ok r1 e]
      exact relE_of (h.step f1 w1 b1) (.inl rfl) rfl
theorem sim_oN : SimO tl oNoneP oNone := fun B n0 A env m pe s h => relE_of h (.inl rfl) rfl
theorem sim_oS (ha : SimE tl ga fa) : SimO tl (oSomeP ga) (oSome fa) := fun B n0 A env m pe s h =>
  (ha B n0 A env m pe s h).bind (fun _ _ _ _ _ _ h => h) fun a wa m1 s1 f1 w1 b1 r1 => by
    have h1 := h.step f1 w1 b1
    split
    · rw [RdA.flat r1 rfl]
      exact relE_of h1 (.inl rfl) rfl
    · trivial
theorem sim_Sl {lo hi : Pe (Option Int)} {l h : Eo} (ha : SimE tl ga fa) (hl : SimO tl lo l) (hh : SimO tl hi h) : SimE tl (pSl ga lo hi) (eSl fa l h) := fun B n0 A env m pe s h =>
  (ha B n0 A env m pe s h).bind baseV fun a wa m1 s1 f1 w1 b1 r1 => by
    have h1 := h.step f1 w1 b1
    refine (hl B n0 A env m1 pe s1 h1).bind baseV fun x x' m2 s2 f2 w2 b2 r2 => ?_
    subst r2
    have h2 := h1.step f2 w2 b2
    refine (hh B n0 A env m2 pe s2 h2).bind baseV fun y y' m3 s3 f3 w3 b3 r3 => ?_
    subst r3
    have h3 := h2.step f3 w3 b3
    cases e : pCut a x y with
    | none => trivial
    | some v =>
      obtain ⟨w, m', e1, nx, r⟩ := cut_ok h3 (((r1.step h.bag.sub f2).step h.bag.sub f3).base (Nat.zero_le _)) e
      rw [e1]
      exact relE_of h3 nx r
theorem sim_Join (ha : SimE tl ga fa) (hb : SimE tl gb fb) : SimE tl (pJoin ga gb) (eJoin fa fb) := fun B n0 A env m pe s h =>
  (ha B n0 A env m pe s h).bind baseV fun a wa m1 s1 f1 w1 b1 r1 => by
    have h1 := h.step f1 w1 b1
    split
    · rename_i z
      rw [RdA.flat r1 rfl]
      refine (hb B n0 A env m1 pe s1 h1).bind baseV fun y wy m2 s2 f2 w2 b2 r2 => ?_
      have h2 := h1.step f2 w2 b2
      cases e : joinP z y with
      | none => trivial
      | some v =>
        unfold joinP at e
        split at e
        · rename_i xs e1
          obtain ⟨ws, q1, q3⟩ := seq_ok h2 r2 e1
          split at e
          · rename_i ys e2
            split at e
            · rename_i hl
              cases e
              have e3 : joinR z wy m2 = some (.d (.str (Txt.join z ys)), m2) := by
                unfold joinR
                simp only [q1, strs_ok q3 e2]
                exact if_pos hl
              rw [e3]
              exact relE_of h2 (.inl rfl) (.d rfl)
            · cases e
          · cases e
        · cases e
    · trivial
end
end PD
set_option Elab.async false
set_option linter.all false
set_option maxRecDepth 100000
set_option maxHeartbeats 2000000
namespace PD
open PySem PySem.Spec PyProof.Rows L2 DL
section
variable {tl : List (Str × Str)} {B : Lo} {n0 b0 b1 : Nat} {A : List Nat} {env : DL.Env} {m m' m1 : Mm} {pe : PEnv} {s s' : Bg}
theorem set_cases {α : Type} {l : List α} {i j : Nat} {x y : α} (h : (l.set i x)[j]? = some y) : (j = i ∧ j < l.length ∧ y = x) ∨ (j ≠ i ∧ l[j]? = some y) := by
  by_cases e : j = i
  · subst e
    have hl : j < l.length := by have := get_of h; rwa [List.length_set] at this
    rw [List.getElem?_set_self hl] at h
    exact .inl ⟨rfl, hl, (Option.some.inj h).symm⟩
  · rw [List.getElem?_set_ne (Ne.symm e)] at h
    exact .inr ⟨e, h⟩
theorem set_ne' {α : Type} {l : List α} {i j : Nat} {x : α} (h : j ≠ i) : (l.set i x)[j]? = l[j]? := List.getElem?_set_ne (Ne.symm h)
/-- a slot gets data -/
theorem SR.set (h : SR tl B n0 A env m pe s) {i : Nat} {w : Wd} {x : PyData} (r : RdA m A w x) : SR tl B n0 A (env.set i (some w)) m (pe.set i (.d x)) s := by
  refine ⟨h.wf, h.le, by simp [h.len], fun j y e => ?_, fun j e => ?_, fun j ko e => ?_, fun j c e => ?_, fun j k c c' n e1 e2 e3 e4 => ?_, h.bag, h.alt, h.tab⟩
  · rcases set_cases e with ⟨rfl, hl, ey⟩ | ⟨hne, e⟩
    · cases ey
      exact ⟨w, by rw [List.getElem?_set_self (by rw [h.len]; exact hl)], r⟩
    · obtain ⟨w', q1, q2⟩ := h.val j y e
      exact ⟨w', by rw [set_ne' hne]; exact q1, q2⟩
  · rcases set_cases e with ⟨rfl, hl, ey⟩ | ⟨hne, e⟩
    · cases ey
    · obtain ⟨a, b, q1, q2⟩ := h.bagv j e
      exact ⟨a, b, q1, by rw [set_ne' hne]; exact q2⟩
  · rcases set_cases e with ⟨rfl, hl, ey⟩ | ⟨hne, e⟩
    · cases ey
    · obtain ⟨a, q1, q2⟩ := h.obv j ko e
      exact ⟨a, q1, by rw [set_ne' hne]; exact q2⟩
  · rcases set_cases e with ⟨rfl, hl, ey⟩ | ⟨hne, e⟩
    · cases ey
    · obtain ⟨n, cl, q1, q2⟩ := h.own j c e
      exact ⟨n, cl, by rw [set_ne' hne]; exact q1, q2⟩
  · rcases set_cases e1 with ⟨_, _, ey⟩ | ⟨hj, e1⟩
    · cases ey
    · rcases set_cases e2 with ⟨_, _, ey⟩ | ⟨hk, e2⟩
      · cases ey
      · rw [set_ne' hj] at e3
        rw [set_ne' hk] at e4
        exact h.dst j k c c' n e1 e2 e3 e4
/-- a slot is forgotten -/
theorem SR.unset (h : SR tl B n0 A env m pe s) {i : Nat} {o : Option Wd} : SR tl B n0 A (env.set i o) m (pe.set i .no) s := by
  refine ⟨h.wf, h.le, by simp [h.len], fun j y e => ?_, fun j e => ?_, fun j ko e => ?_, fun j c e => ?_, fun j k c c' n e1 e2 e3 e4 => ?_, h.bag, h.alt, h.tab⟩
  · rcases set_cases e with ⟨rfl, hl, ey⟩ | ⟨hne, e⟩
    · cases ey
    · obtain ⟨w', q1, q2⟩ := h.val j y e
      exact ⟨w', by rw [set_ne' hne]; exact q1, q2⟩
  · rcases set_cases e with ⟨rfl, hl, ey⟩ | ⟨hne, e⟩
    · cases ey
    · obtain ⟨a, b, q1, q2⟩ := h.bagv j e
      exact ⟨a, b, q1, by rw [set_ne' hne]; exact q2⟩
  · rcases set_cases e with ⟨rfl, hl, ey⟩ | ⟨hne, e⟩
    · cases ey
    · obtain ⟨a, q1, q2⟩ := h.obv j ko e
      exact ⟨a, q1, by rw [set_ne' hne]; exact q2⟩
  · rcases set_cases e with ⟨rfl, hl, ey⟩ | ⟨hne, e⟩
    · cases ey
    · obtain ⟨n, cl, q1, q2⟩ := h.own j c e
      exact ⟨n, cl, by rw [set_ne' hne]; exact q1, q2⟩
  · rcases set_cases e1 with ⟨_, _, ey⟩ | ⟨hj, e1⟩
    · cases ey
    · rcases set_cases e2 with ⟨_, _, ey⟩ | ⟨hk, e2⟩
      · cases ey
      · rw [set_ne' hj] at e3
        rw [set_ne' hk] at e4
        exact h.dst j k c c' n e1 e2 e3 e4
/-- what a slot alone has changes in place -/
theorem SR.put (h : SR tl B n0 A env m pe s) {j n : Nat} {cl cl' : Cell} {c c' : Co} {pure : Bool} (e : pe[j]? = some (.own c)) (hw : env[j]? = some (some (.ref n))) (hh : Has m n cl) (r : RdC m A cl' c') (hp : pure = true → ∀ b, cl.lt b = true → cl'.lt b = true) (hnt : ∀ x q, cl ≠ .tab x q) :
    SR tl B n0 A env (m.put n cl' pure) (pe.set j (.own c')) s := by
  obtain ⟨n', cl0, q1, q2, q3, q4, q5, q6⟩ := h.own j c e
  rw [hw] at q1
  cases q1
  have mv : ∀ k c, Has m k c → k ∉ A → Has (m.put n cl' pure) k c ∧ k ∉ A := fun k c hk hn' => ⟨hk.put fun z => hn' (by rw [← z]; exact q2), hn'⟩
  refine ⟨h.wf.put hh r.lt hp, by rw [put_len]; exact h.le, by simp [h.len], fun k y e1 => ?_, fun k e1 => ?_, fun k ko e1 => ?_, fun k c1 e1 => ?_, fun k k' c1 c2 n' e1 e2 e3 e4 => ?_, ?_, fun k hk => by rw [put_len]; exact h.alt k hk, fun p hp => ?_⟩
  · rcases set_cases e1 with ⟨rfl, hl, ey⟩ | ⟨hne, e1⟩
    · cases ey
    · obtain ⟨w', p1, p2⟩ := h.val k y e1
      exact ⟨w', p1, p2.mv mv⟩
  · rcases set_cases e1 with ⟨rfl, hl, ey⟩ | ⟨hne, e1⟩
    · cases ey
    · exact h.bagv k e1
  · rcases set_cases e1 with ⟨rfl, hl, ey⟩ | ⟨hne, e1⟩
    · cases ey
    · exact h.obv k ko e1
  · rcases set_cases e1 with ⟨rfl, hl, ey⟩ | ⟨hne, e1⟩
    · cases ey
      exact ⟨n, cl', hw, q2, q3, q4, has_put hh.lt, r.mv mv⟩
    · obtain ⟨k', cl2, p1, p2, p3, p4, p5, p6⟩ := h.own k c1 e1
      refine ⟨k', cl2, p1, p2, p3, p4, p5.put fun z => ?_, p6.mv mv⟩
      subst z
      exact hne (h.dst k j c1 c n e1 e p1 hw)
  · have key : ∀ {k : Nat} {c1 : Co}, (pe.set j (.own c'))[k]? = some (.own c1) → ∃ c2, pe[k]? = some (.own c2) := fun {k c1} e1 => by
      rcases set_cases e1 with ⟨rfl, hl, ey⟩ | ⟨hne, e1⟩
      · exact ⟨c, e⟩
      · exact ⟨c1, e1⟩
    obtain ⟨d1, g1⟩ := key e1
    obtain ⟨d2, g2⟩ := key e2
    exact h.dst k k' d1 d2 n' g1 g2 e3 e4
  · exact h.bag.mv0 (fun k hk c hc => hc.put fun z => q4 (by rw [z]; exact hk)) mv (bagA_sub h.bag)
  · obtain ⟨k, hk⟩ := h.tab p hp
    refine ⟨k, hk.put fun z => ?_⟩
    subst z
    have := hh.inj hk
    exact hnt _ _ this
end
def forgetP : List Nat → PEnv → PEnv
  | [], e => e
  | i :: r, e => (forgetP r e).set i .no
mutual
def putP : Tg → PyData → PEnv → Option PEnv
  | .name i, x, e => some (e.set i (.d x))
  | .tup ts, x, e => match x with
    | .tuple xs => putPs ts xs e
    | _ => none
def putPs : List Tg → List PyData → PEnv → Option PEnv
  | [], [], e => some e
  | t :: ts, x :: xs, e => (putP t x e).bind fun e => putPs ts xs e
  | _, _, _ => none
end
section
variable {tl : List (Str × Str)} {B : Lo} {n0 b0 b1 : Nat} {A : List Nat} {env : DL.Env} {m m' m1 : Mm} {pe : PEnv} {s s' : Bg}
theorem SR.forget (h : SR tl B n0 A env m pe s) : ∀ is : List Nat, SR tl B n0 A (DL.forget is env) m (forgetP is pe) s
  | [] => h
  | _ :: r => (SR.forget h r).unset
mutual
theorem SR.putT : ∀ (t : Tg) {env : DL.Env} {pe pe' : PEnv} {w : Wd} {x : PyData}, SR tl B n0 A env m pe s → RdA m A w x → putP t x pe = some pe' → ∃ env', t.put w env = some env' ∧ SR tl B n0 A env' m pe' s
  | .name i, env, pe, pe', w, x, h, r, e => by
    cases e
    exact ⟨_, rfl, h.set r⟩
  | .tup ts, env, pe, pe', w, x, h, r, e => by
    unfold putP at e
    split at e
    · obtain ⟨ws, q1, q2⟩ := RdA.tupI r
      obtain ⟨env', g1, g2⟩ := SR.putTs ts h q2 e
      refine ⟨env', ?_, g2⟩
      show (tupOf w).bind (fun ws => Tg.putAll ts ws env) = _
      rw [q1]
      exact g1
    · cases e
theorem SR.putTs : ∀ (ts : List Tg) {env : DL.Env} {pe pe' : PEnv} {ws : List Wd} {xs : List PyData}, SR tl B n0 A env m pe s → RdsA m A ws xs → putPs ts xs pe = some pe' → ∃ env', Tg.putAll ts ws env = some env' ∧ SR tl B n0 A env' m pe' s
  | [], env, pe, pe', _, _, h, .nil, e => by cases e; exact ⟨_, rfl, h⟩
  | t :: ts, env, pe, pe', _, _, h, .cons r rs, e => by
    obtain ⟨pe1, e1, e2⟩ := Option.bind_eq_some_iff.mp (show (putP t _ pe).bind (fun e => putPs ts _ e) = some pe' from e)
    obtain ⟨env1, g1, g2⟩ := SR.putT t h r e1
    obtain ⟨env2, g3, g4⟩ := SR.putTs ts g2 rs e2
    refine ⟨env2, ?_, g4⟩
    show (Tg.put t _ env).bind (fun env => Tg.putAll ts _ env) = _
    rw [g1]
    exact g3
  | [], env, pe, pe', _, _, h, .cons r rs, e => by cases e
  | t :: ts, env, pe, pe', _, _, h, .nil, e => by cases e
end
end
structure PIt where
  xs : List PyData
  free : Bool
instance : Gr PIt (List Wd × Gd) := ⟨fun _ _ => []⟩
instance {rel : Nat → Mm → PIt → List Wd × Gd → Prop} : GrR PIt (List Wd × Gd) rel := ⟨fun _ _ _ _ _ k hk => by cases hk⟩
def RelI (B : Lo) (A : List Nat) (m : Mm) (p : PIt) (q : List Wd × Gd) : Prop := RdsA m A q.1 p.xs ∧ (q.2 = [] ∨ ∃ n us, q.2 = [(n, us)] ∧ Has m n us ∧ n ∉ bagC B ∧ (p.free = true → n ∉ A))
abbrev SimI (tl : List (Str × Str)) (g : Pe PIt) (f : Em (List Wd × Gd)) : Prop := SimG tl (fun _ _ B A _ m p q => RelI B A m p q) g f
def itP : PV → Option PIt
  | .d (.tuple xs) => some ⟨xs, true⟩
  | .d (.list xs) => some ⟨xs, true⟩
  | .fr (.l xs) => some ⟨xs, true⟩
  | .bo _ (.l xs) => some ⟨xs, false⟩
  | .d (.str x) => some ⟨x.cps.toList.map fun c => .str ⟨#[c]⟩, true⟩
  | _ => none
def piV (f : Pe PV) : Pe PIt := fun e s => (f e s).bind fun w s => PR.of (itP w) s
def intsP' (lo : Int) (n : Nat) : List PyData := (List.range n).map fun (k : Nat) => .int (lo + k)
def ran1P : List PV → Option PIt
  | [.d (.int j)] => if range62 j = true then some ⟨intsP' 0 j.toNat, true⟩ else none
  | _ => none
def ran2P : List PV → Option PIt
  | [.d (.int i), .d (.int j)] => if (range62 i && range62 j) = true then some ⟨intsP' i (j - i).toNat, true⟩ else none
  | _ => none
def piR1 (f : Pe (List PV)) : Pe PIt := fun e s => (f e s).bind fun w s => PR.of (ran1P w) s
def piR2 (f : Pe (List PV)) : Pe PIt := fun e s => (f e s).bind fun w s => PR.of (ran2P w) s
section
variable {tl : List (Str × Str)} {B : Lo} {n0 b0 b1 : Nat} {A : List Nat} {env : DL.Env} {m m' m1 : Mm} {pe : PEnv} {s s' : Bg} {g : Pe PV} {f : Em Wd}
theorem rds_chars {l : List Nat} : RdsA m A (l.map fun c => .d (.str ⟨#[c]⟩)) (l.map fun c => .str ⟨#[c]⟩) := by
  induction l with
  | nil => exact .nil
  | cons a l ih => exact .cons (.d rfl) ih
theorem rds_from {l : List Nat} {lo : Int} : RdsA m A (l.map fun (k : Nat) => .d (.int (lo + k))) (l.map fun (k : Nat) => .int (lo + k)) := by
  induction l with
  | nil => exact .nil
  | cons a l ih => exact .cons (.d rfl) ih
theorem sim_iV (hg : SimE tl g f) : SimI tl (piV g) (iVal f) := fun B n0 A env m pe s h =>
  (hg B n0 A env m pe s h).bind (fun _ _ _ _ _ _ h => h) fun v w m1 s1 f1 w1 b1 r1 => by
    have h1 := h.step f1 w1 b1
    unfold itP
    split
    · rename_i xs
      have r1' : RdA m1 A w (.tuple xs) := r1
      cases r1' with
      | d h => exact relE_of h1 (.inl rfl) ⟨rdsA_d h, .inl rfl⟩
      | tup hs => exact relE_of h1 (.inl rfl) ⟨hs, .inl rfl⟩
    · rename_i xs
      obtain ⟨n, us, e, hh, hn, hs⟩ := RdA.lstI r1
      subst e
      simp only [show m1.cells[n]? = some (.lst us) from hh]
      exact relE_of h1 (.inl rfl) ⟨hs, .inr ⟨n, _, rfl, hh, fun z => hn (h.bag.sub _ z), fun _ => hn⟩⟩
    · rename_i xs
      obtain ⟨n, cl, e, _, hn, hh, hc⟩ := r1
      cases cl with
      | lst us =>
        subst e
        simp only [show m1.cells[n]? = some (.lst us) from hh]
        exact relE_of h1 (.inl rfl) ⟨RdC.dropA hc, .inr ⟨n, _, rfl, hh, fun z => hn (h.bag.sub _ z), fun _ => hn⟩⟩
      | _ => exact hc.elim
    · rename_i i xs
      obtain ⟨n, cl, e1, _, _, h3, h4, h5⟩ := h1.own _ _ r1.1
      have e2 := r1.2.symm.trans e1
      cases e2
      cases cl with
      | lst us =>
        simp only [show m1.cells[n]? = some (.lst us) from h4]
        exact relE_of h1 (.inl rfl) ⟨h5, .inr ⟨n, _, rfl, h4, fun z => h3 (bagC_A z), fun z => by cases z⟩⟩
      | _ => exact h5.elim
    · rename_i x
      rw [RdA.flat r1 rfl]
      exact relE_of h1 (.inl rfl) ⟨rds_chars, .inl rfl⟩
    · trivial
theorem sim_iR1 {ga : Pe (List PV)} {fa : Em (List Wd)} (ha : SimA tl ga fa) : SimI tl (piR1 ga) (iRan1 fa) := fun B n0 A env m pe s h =>
  (ha B n0 A env m pe s h).bind (fun _ _ _ _ _ _ h => h) fun v w m1 s1 f1 w1 b1 r1 => by
    have h1 := h.step f1 w1 b1
    unfold ran1P
    split
    · rename_i j
      obtain ⟨w', q, r2⟩ := vrs1 h.bag.sub r1
      subst q
      rw [RdA.flat r2 rfl]
      by_cases hj : range62 j = true
      · simp only [hj, if_true]
        exact relE_of h1 (.inl rfl) ⟨rds_from, .inl rfl⟩
      · simp only [hj]; trivial
    · trivial
end
def plcL (t : Tg) (c : Pe Bool) (f : Pe PV) (e0 : PEnv) : List PyData → List PyData → Bg → PR (List PyData)
  | [], acc, s => .ok acc s
  | x :: xs, acc, s => match putP t x e0 with
    | none => .stuck
    | some e => (c e s).bind fun b s => if b = true then (f e s).bind fun v s => (match frz v with
      | some y => if acc.length < LIM then plcL t c f e0 xs (acc ++ [y]) s else .stuck
      | none => .stuck) else plcL t c f e0 xs acc s
def pLc (g : Pe PIt) (t : Tg) (c : Pe Bool) (f : Pe PV) (own : List Nat) : Pe PV := fun e s => (g e s).bind fun p s => match plcL t c f (forgetP own e) p.xs [] s with
  | .ok xs s => .ok (.fr (.l xs)) s
  | _ => .stuck
section
variable {tl : List (Str × Str)}
theorem sim_lcL {t : Tg} {c : Pe Bool} {f : Pe PV} {c' : Em Bool} {f' : Em Wd} (hc : SimT tl c c') (hf : SimE tl f f') {B : Lo} {n0 : Nat} {A : List Nat} {e0 : DL.Env} {pe0 : PEnv} {gd : Gd} {k : Bool} :
    ∀ (xs : List PyData) (ws : List Wd) (acc : List PyData) (accW : List Wd) (m : Mm) (s : Bg), SR tl B n0 A e0 m pe0 s → RdsA m A ws xs → RdsA m A accW acc → (gd = [] ∨ ∃ n us, gd = [(n, us)] ∧ Has m n us ∧ n ∉ bagC B) →
      (match plcL t c f pe0 xs acc s with
        | .ok ys s' => ∃ us m', lcL t c' f' gd e0 ws accW m = .ok us m' ∧ Fr (bagC B) m m' ∧ WF m' ∧ BagR B A m' s' ∧ RdsA m' A us ys
        | _ => True) := by
  intro xs
  induction xs with
  | nil =>
    intro ws acc accW m s h hw ha hg
    cases hw
    refine ⟨accW, m, ?_, .refl, h.wf, h.bag, ha⟩
    unfold lcL
    refine if_pos ?_
    rcases hg with e | ⟨n, us, e, hh, _⟩
    · rw [e]; exact gdOk_nil
    · rw [e]; exact gdOk_one hh
  | cons x xs ih =>
    intro ws acc accW m s h hw ha hg
    cases hw with
    | @cons w ws _ _ hx hxs =>
      have gd1 : gdOk gd m = true := by
        rcases hg with e | ⟨n, us, e, hh, _⟩
        · rw [e]; exact gdOk_nil
        · rw [e]; exact gdOk_one hh
      unfold plcL
      cases e : putP t x pe0 with
      | none => simp only [e]
      | some pe1 =>
        simp only [e]
        obtain ⟨env1, q1, h1⟩ := SR.putT t h hx e
        have cc := hc B n0 A env1 m pe1 s h1
        cases ec : c pe1 s with
        | stuck => trivial
        | exc _ _ => trivial
        | ok b s1 =>
          rw [ec] at cc
          obtain ⟨b', m1, e1, f1, w1, bg1, rfl⟩ := cc
          have hg1 : ∀ {m'}, Fr (bagC B) m m' → (gd = [] ∨ ∃ n us, gd = [(n, us)] ∧ Has m' n us ∧ n ∉ bagC B) := fun f => by
            rcases hg with e | ⟨n, us, e, hh, hn⟩
            · exact .inl e
            · exact .inr ⟨n, us, e, f.has hh hn, hn⟩
          have hB := h.bag.sub
          have unf : lcL t c' f' gd e0 (w :: ws) accW m = ((c' env1 m).bind fun b m => if b = true then (f' env1 m).bind fun x m => (if accW.length < LIM then lcL t c' f' gd e0 ws (accW ++ [x]) m else .stuck) else lcL t c' f' gd e0 ws accW m) := by
            rw [lcL, if_pos gd1, q1]
          rw [unf, e1]
          simp only [PR.bind_ok, Rs.bind_ok]
          cases b with
          | false =>
            have := ih ws acc accW m1 s1 (h.step f1 w1 bg1.1) (hxs.fr hB f1) (ha.fr hB f1) (hg1 f1)
            simp only [Bool.false_eq_true, if_false]
            split at this
            · obtain ⟨us, m', g1, g2, g3⟩ := this
              exact ⟨us, m', g1, f1.trans g2, g3⟩
            · trivial
          | true =>
            simp only [if_true]
            have ff := hf B n0 A env1 m1 pe1 s1 (h1.step f1 w1 bg1.1)
            cases ef : f pe1 s1 with
            | stuck => trivial
            | exc _ _ => trivial
            | ok v s2 =>
              rw [ef] at ff
              obtain ⟨wv, m2, e2, f2, w2, bg2, rv⟩ := ff
              rw [e2]
              simp only [PR.bind_ok, Rs.bind_ok]
              cases ev : frz v with
              | none => trivial
              | some y =>
                simp only []
                have hy := frz_ok rv ev
                have f12 := f1.trans f2
                have ha2 := ha.fr hB f12
                by_cases hl : acc.length < LIM
                · rw [if_pos hl, if_pos (by rw [ha2.length]; exact hl)]
                  have := ih ws (acc ++ [y]) (accW ++ [wv]) m2 s2 (h.step f12 w2 bg2.1) (hxs.fr hB f12) (ha2.append (.cons hy .nil)) (hg1 f12)
                  split at this
                  · obtain ⟨us, m', g1, g2, g3⟩ := this
                    exact ⟨us, m', g1, f12.trans g2, g3⟩
                  · trivial
                · rw [if_neg hl]; trivial
theorem sim_Lc {g : Pe PIt} {g' : Em (List Wd × Gd)} {t : Tg} {c : Pe Bool} {f : Pe PV} {c' : Em Bool} {f' : Em Wd} {own : List Nat} (hg : SimI tl g g') (hc : SimT tl c c') (hf : SimE tl f f') : SimE tl (pLc g t c f own) (eLc g' t c' f' own) := fun B n0 A env m pe s h =>
  (hg B n0 A env m pe s h).bind baseV fun p q m1 s1 f1 w1 b1 r1 => by
    have h1 := h.step f1 w1 b1
    have key := sim_lcL hc hf (t := t) (k := true) (gd := q.2) p.xs q.1 [] [] m1 s1 (h1.forget own) r1.1 .nil (by
      rcases r1.2 with e | ⟨n, us, e, a, b, _⟩
      · exact .inl e
      · exact .inr ⟨n, us, e, a, b⟩)
    split at key
    · rename_i ys s2 e
      obtain ⟨us, m2, e2, f2, w2, bg2, r2⟩ := key
      rw [e2]
      have h2 := h1.step f2 w2 bg2
      have r : RdC m2 A (.lst us) (.l ys) := r2
      have nx : Nx m2 (m2.push (.lst us)) := nx_new r
      exact ⟨_, _, rfl, f2.trans nx.fr0.any, nx.wf w2, bagS_new bg2 nx.fr0 (fun k hk => by rw [List.mem_singleton.mp hk]; exact Nat.le_refl _), fr_new h2 r f2.le⟩
    · trivial
end
end PD
set_option Elab.async false
set_option linter.all false
set_option maxRecDepth 100000
set_option maxHeartbeats 2000000
namespace PD
open PySem PySem.Spec PyProof.Rows L2 DL
structure St (B : Lo) (n0 : Nat) (A : List Nat) (m : Mm) (A' : List Nat) (m' : Mm) : Prop where
  le : m.cells.length ≤ m'.cells.length
  old : ∀ k, k < n0 → k ∉ bagC B → m'.cells[k]? = m.cells[k]?
  fix : ∀ k, k < m.cells.length → k ∉ A → m'.cells[k]? = m.cells[k]?
  sub : ∀ k ∈ A', k ∈ A ∨ m.cells.length ≤ k
  sup : ∀ k ∈ A, k < n0 → k ∈ A'
section
variable {tl : List (Str × Str)} {B : Lo} {n0 b0 b1 : Nat} {A A' A2 : List Nat} {env : DL.Env} {m m' m1 m2 : Mm} {pe : PEnv} {s s' : Bg}
theorem St.refl : St B n0 A m A m := ⟨Nat.le_refl _, fun _ _ _ => rfl, fun _ _ _ => rfl, fun _ h => .inl h, fun _ h _ => h⟩
theorem St.trans (a : St B n0 A m A' m') (b : St B n0 A' m' A2 m2) : St B n0 A m A2 m2 := by
  refine ⟨Nat.le_trans a.le b.le, fun k h hn => (b.old k h hn).trans (a.old k h hn), fun k h hn => ?_, fun k h => ?_, fun k h hk => b.sup k (a.sup k h hk) hk⟩
  · refine (b.fix k (Nat.lt_of_lt_of_le h a.le) fun z => ?_).trans (a.fix k h hn)
    rcases a.sub k z with z | z
    · exact hn z
    · omega
  · rcases b.sub k h with h | h
    · exact a.sub k h
    · exact .inr (Nat.le_trans a.le h)
theorem St.fr (hB : ∀ k ∈ bagC B, k ∈ A) (hn : n0 ≤ m.cells.length) (f : Fr (bagC B) m m') : St B n0 A m A m' :=
  ⟨f.le, fun k h hk => f.eq k (Nat.lt_of_lt_of_le h hn) hk, fun k h hk => f.eq k h fun z => hk (hB k z), fun _ h => .inl h, fun _ h _ => h⟩
end
def RelF (tl : List (Str × Str)) (B : Lo) (n0 : Nat) (A' : List Nat) (env' : DL.Env) (m' : Mm) (pe' : PEnv) (s' : Bg) : PFl → Fl → Prop
  | .nx, .nx => SR tl B n0 A' env' m' pe' s'
  | .bk, .bk => SR tl B n0 A' env' m' pe' s'
  | .ct, .ct => SR tl B n0 A' env' m' pe' s'
  | .rt v, .rt w => WF m' ∧ BagS B (grow [] v w) A' m' s' ∧ VR [] [] B A' n0 m' v w
  | _, _ => False
def RelS (tl : List (Str × Str)) (B : Lo) (n0 : Nat) (A : List Nat) (m : Mm) : PS → Sr → Prop
  | .go fl pe' s', r => ∃ fl' env' m' A', r = .go fl' env' m' ∧ St B n0 A m A' m' ∧ RelF tl B n0 A' env' m' pe' s' fl fl'
  | .exc x pe' s', r => ∃ x' env' m' A', r = .exc x' env' m' ∧ St B n0 A m A' m' ∧ SR tl B n0 A' env' m' pe' s' ∧ XR m' A' x x'
  | .stuck, _ => True
def SimS (tl : List (Str × Str)) (g : Ps) (f : Sm) : Prop := ∀ (B : Lo) (n0 : Nat) (A : List Nat) (env : DL.Env) (m : Mm) (pe : PEnv) (s : Bg), SR tl B n0 A env m pe s → RelS tl B n0 A m (g pe s) (f env m)
def prs {α : Type} (r : PR α) (pe : PEnv) (k : α → Bg → PS) : PS := match r with
  | .ok v s => k v s
  | .exc x s => .exc x pe s
  | .stuck => .stuck
@[simp] theorem prs_ok {α : Type} (v : α) (s : Bg) (pe : PEnv) (k : α → Bg → PS) : prs (.ok v s) pe k = k v s := rfl
@[simp] theorem prs_exc {α : Type} (v : PEx) (s : Bg) (pe : PEnv) (k : α → Bg → PS) : prs (.exc v s) pe k = .exc v pe s := rfl
@[simp] theorem prs_stuck {α : Type} (pe : PEnv) (k : α → Bg → PS) : prs .stuck pe k = .stuck := rfl
section
variable {tl : List (Str × Str)} {B : Lo} {n0 b0 b1 : Nat} {A A' A2 : List Nat} {env : DL.Env} {m m' m1 m2 : Mm} {pe : PEnv} {s s' : Bg}
theorem RelS.pre (st : St B n0 A m A' m') {r : PS} {R : Sr} (h : RelS tl B n0 A' m' r R) : RelS tl B n0 A m r R := by
  cases r with
  | go fl pe' s' => obtain ⟨fl', env', m2, A2, e, s2, r⟩ := h; exact ⟨fl', env', m2, A2, e, st.trans s2, r⟩
  | exc x pe' s' => obtain ⟨x', env', m2, A2, e, s2, r⟩ := h; exact ⟨x', env', m2, A2, e, st.trans s2, r⟩
  | stuck => trivial
theorem relS_rs {α β : Type} [Gr α β] {rel : Nat → Mm → α → β → Prop} {r : PR α} {R : Rs β} {k : α → Bg → PS} {K : β → Mm → Sr} (h0 : SR tl B n0 A env m pe s) (h : RelE rel B A m r R)
    (hk : ∀ v w m' s', Fr (bagC B) m m' → WF m' → BagR B A m' s' → rel m.cells.length m' v w → RelS tl B n0 A m' (k v s') (K w m')) : RelS tl B n0 A m (prs r pe k) (rs R env K) := by
  cases r with
  | stuck => trivial
  | ok v s' =>
    obtain ⟨w, m', e, f, wf, b, r⟩ := h
    subst e
    exact (hk v w m' s' f wf b.1 r).pre (.fr h0.bag.sub h0.le f)
  | exc x s' =>
    obtain ⟨x', m', e, f, wf, b, r⟩ := h
    subst e
    exact ⟨x', env, m', A, rfl, .fr h0.bag.sub h0.le f, h0.step f wf b, r⟩
theorem relS_rs0 {α β : Type} [Gr α β] {rel : Nat → Mm → α → β → Prop} {r : PR α} {R : Rs β} {k : α → Bg → PS} {K : β → Mm → Sr} (h0 : SR tl B n0 A env m pe s) (h : RelE rel B A m r R)
    (hk : ∀ v w m' s', Fr (bagC B) m m' → WF m' → BagS B (Gr.gr v w) A m' s' → rel m.cells.length m' v w → RelS tl B n0 A m (k v s') (K w m')) : RelS tl B n0 A m (prs r pe k) (rs R env K) := by
  cases r with
  | stuck => trivial
  | ok v s' =>
    obtain ⟨w, m', e, f, wf, b, r⟩ := h
    subst e
    exact hk v w m' s' f wf b r
  | exc x s' =>
    obtain ⟨x', m', e, f, wf, b, r⟩ := h
    subst e
    exact ⟨x', env, m', A, rfl, .fr h0.bag.sub h0.le f, h0.step f wf b, r⟩
theorem relS_rsS {α β : Type} [Gr α β] {rel : Nat → Mm → α → β → Prop} {r : PR α} {R : Rs β} {k : α → Bg → PS} {K : β → Mm → Sr} (h0 : SR tl B n0 A env m pe s) (h : RelE rel B A m r R)
    (hk : ∀ v w m' s', Fr (bagC B) m m' → WF m' → BagS B (Gr.gr v w) A m' s' → rel m.cells.length m' v w → RelS tl B n0 A m' (k v s') (K w m')) : RelS tl B n0 A m (prs r pe k) (rs R env K) := by
  cases r with
  | stuck => trivial
  | ok v s' =>
    obtain ⟨w, m', e, f, wf, b, r⟩ := h
    subst e
    exact (hk v w m' s' f wf b r).pre (.fr h0.bag.sub h0.le f)
  | exc x s' =>
    obtain ⟨x', m', e, f, wf, b, r⟩ := h
    subst e
    exact ⟨x', env, m', A, rfl, .fr h0.bag.sub h0.le f, h0.step f wf b, r⟩
theorem relS_nx (h : SR tl B n0 A env m pe s) : RelS tl B n0 A m (.go .nx pe s) (.go .nx env m) := ⟨.nx, env, m, A, rfl, .refl, h⟩
end
def pSeq (f g : Ps) : Ps := fun e s => match f e s with
  | .go .nx e s => g e s
  | r => r
def pNop : Ps := fun e s => .go .nx e s
def pDrop (f : Pe PV) : Ps := fun e s => prs (f e s) e fun _ s => .go .nx e s
def retV : PV → Option PV
  | .d x => some (.d x)
  | .fr c => some (.fr c)
  | .bo _ c => some (.fr c)
  | .bag => none
  | .ob _ => none
def pRet (f : Pe PV) : Ps := fun e s => prs (f e s) e fun v s => match retV v with
  | some v => .go (.rt v) e s
  | none => .stuck
def pRetN : Ps := fun e s => .go (.rt (.d .none)) e s
def pBk : Ps := fun e s => .go .bk e s
def pCt : Ps := fun e s => .go .ct e s
def pIfS (c : Pe Bool) (f g : Ps) : Ps := fun e s => prs (c e s) e fun b s => if b = true then f e s else g e s
/-- a slot gets a value, to be changed later perhaps -/
def setV (i : Nat) (v : PV) (e : PEnv) : Option PEnv := match v with
  | .d x => some (e.set i (.d x))
  | .fr c => some (e.set i (.own c))
  | .bo j c => some ((e.set j (.d c.toD)).set i (.d c.toD))
  | .bag => none
  | .ob k => some (e.set i (.ob k))
/-- a slot gets data -/
def setF (i : Nat) (v : PV) (e : PEnv) : Option PEnv := (frz v).map fun x => e.set i (.d x)
def pSet (i : Nat) (f : Pe PV) : Ps := fun e s => prs (f e s) e fun v s => match setV i v e with
  | some e => .go .nx e s
  | none => .stuck
def pSetF (i : Nat) (f : Pe PV) : Ps := fun e s => prs (f e s) e fun v s => match setF i v e with
  | some e => .go .nx e s
  | none => .stuck
/-- what slot j alone has is data from here on -/
def pFz (j : Nat) (g : Ps) : Ps := fun e s => match e[j]? with
  | some (.own c) => g (e.set j (.d c.toD)) s
  | _ => g e s
def pAsg (t : Tg) (f : Pe PV) : Ps := fun e s => prs (f e s) e fun v s => match frz v with
  | some x => match putP t x e with
    | some e => .go .nx e s
    | none => .stuck
  | none => .stuck
def pAug (i : Nat) (p : PV → PV → Option PV) (f : Pe PV) : Ps := fun e s => match e[i]? with
  | some (.d x) => prs (f e s) e fun y s => match p (.d x) y with
    | some v => match setF i v e with
      | some e => .go .nx e s
      | none => .stuck
    | none => .stuck
  | _ => .stuck
section
variable {tl : List (Str × Str)} {B : Lo} {n0 b0 b1 : Nat} {A A' A2 : List Nat} {env : DL.Env} {m m' m1 m2 : Mm} {pe : PEnv} {s s' : Bg}
variable {g ga gb gc : Pe PV} {f fa fb fc : Em Wd} {t t' : Pe Bool} {c c' : Em Bool} {p q : Ps} {P Q : Sm}
theorem sim_seq (h1 : SimS tl p P) (h2 : SimS tl q Q) : SimS tl (pSeq p q) (sSeq P Q) := fun B n0 A env m pe s h => by
  have r1 := h1 B n0 A env m pe s h
  unfold pSeq sSeq
  cases e : p pe s with
  | stuck => simp only [e]; trivial
  | exc x pe' s' =>
    rw [e] at r1
    obtain ⟨x', env', m', A', e1, r⟩ := r1
    rw [e1]
    exact ⟨x', env', m', A', rfl, r⟩
  | go fl pe' s' =>
    rw [e] at r1
    obtain ⟨fl', env', m', A', e1, st, r⟩ := r1
    rw [e1]
    cases fl with
    | nx =>
      cases fl' with
      | nx => exact (h2 B n0 A' env' m' pe' s' r).pre st
      | _ => exact r.elim
    | bk =>
      cases fl' with
      | bk => exact ⟨_, env', m', A', rfl, st, r⟩
      | _ => exact r.elim
    | ct =>
      cases fl' with
      | ct => exact ⟨_, env', m', A', rfl, st, r⟩
      | _ => exact r.elim
    | rt v =>
      cases fl' with
      | rt w => exact ⟨_, env', m', A', rfl, st, r⟩
      | _ => exact r.elim
theorem sim_nop : SimS tl pNop sNop := fun B n0 A env m pe s h => relS_nx h
theorem sim_drop (ha : SimE tl ga fa) : SimS tl (pDrop ga) (sDrop fa) := fun B n0 A env m pe s h =>
  relS_rs h (ha B n0 A env m pe s h) fun v w m1 s1 f1 w1 b1 r1 => relS_nx (h.step f1 w1 b1)
theorem VR.nil {v : PV} {w : Wd} (h : VR pe env B A b0 m v w) (hv : ∀ i c, v ≠ .bo i c) : VR [] [] B A b0 m v w := by
  cases v with
  | bo i c => exact absurd rfl (hv i c)
  | _ => exact h
theorem ret_ok {v v' : PV} {w : Wd} (h : SR tl B n0 A env m pe s) (bs : BagS B (grow [] v w) A m s) (r : VR pe env B A n0 m v w) (e : retV v = some v') : ∃ A', St B n0 A m A' m ∧ BagS B (grow [] v' w) A' m s ∧ VR [] [] B A' n0 m v' w := by
  cases v with
  | d x => cases e; exact ⟨A, .refl, bs, r⟩
  | fr c => cases e; exact ⟨A, .refl, bs, r⟩
  | bag => cases e
  | ob k => cases e
  | bo i c =>
    cases e
    obtain ⟨n, cl, e1, h1, h2, h3, h4, h5⟩ := h.own _ _ r.1
    have e2 := r.2.symm.trans e1
    cases e2
    have hf : ∀ k ∈ bagA B, k ∈ A.filter (· ≠ n) := fun k hk => List.mem_filter.mpr ⟨bagA_sub h.bag k hk, by simp; exact fun z => h3 (by rw [← z]; exact hk)⟩
    refine ⟨A.filter (· ≠ n), ⟨Nat.le_refl _, fun _ _ _ => rfl, fun _ _ _ => rfl, fun k hk => .inl (List.mem_filter.mp hk).1, fun k hk hk2 => List.mem_filter.mpr ⟨hk, by simp; omega⟩⟩,
      ⟨h.bag.anti (fun k hk => (List.mem_filter.mp hk).1) hf, h.bag.anti (fun k hk => ?_) fun k hk => List.mem_append_right _ (hf k hk)⟩, n, cl, rfl, h2, by simp, h4, h5.mv fun k c hk hn => ⟨hk, fun z => ?_⟩⟩
    · rcases List.mem_append.mp hk with z | z
      · rw [List.mem_singleton.mp z]; exact h1
      · exact (List.mem_filter.mp z).1
    rcases List.mem_cons.mp z with z | z
    · exact hn (by rw [z]; exact h1)
    · exact hn (List.mem_filter.mp z).1
theorem sim_ret (ha : SimE tl ga fa) : SimS tl (pRet ga) (sRet fa) := fun B n0 A env m pe s h =>
  relS_rsS h (ha B n0 A env m pe s h) fun v w m1 s1 f1 w1 b1 r1 => by
    have h1 := h.step f1 w1 b1.1
    cases e : retV v with
    | none => trivial
    | some v' =>
      obtain ⟨A', st, b2, r2⟩ := ret_ok h1 b1 (r1.base h.le) e
      exact ⟨.rt w, env, m1, A', rfl, st, w1, b2, r2⟩
theorem sim_if (hc : SimT tl t c) (h1 : SimS tl p P) (h2 : SimS tl q Q) : SimS tl (pIfS t p q) (sIf c P Q) := fun B n0 A env m pe s h =>
  relS_rs h (hc B n0 A env m pe s h) fun v w m1 s1 f1 w1 b1 r1 => by
    subst r1
    cases v with
    | true => exact h1 B n0 A env m1 pe s1 (h.step f1 w1 b1)
    | false => exact h2 B n0 A env m1 pe s1 (h.step f1 w1 b1)
/-- a slot names an object -/
theorem SR.setOb (h : SR tl B n0 A env m pe s) {i k : Nat} {l : OLo} (hl : B.obs[k]? = some l) : SR tl B n0 A (env.set i (some (.ref l.n))) m (pe.set i (.ob k)) s := by
  refine ⟨h.wf, h.le, by simp [h.len], fun j y e => ?_, fun j e => ?_, fun j ko e => ?_, fun j c e => ?_, fun j k c c' n e1 e2 e3 e4 => ?_, h.bag, h.alt, h.tab⟩
  · rcases set_cases e with ⟨rfl, hl, ey⟩ | ⟨hne, e⟩
    · cases ey
    · obtain ⟨w', q1, q2⟩ := h.val j y e
      exact ⟨w', by rw [set_ne' hne]; exact q1, q2⟩
  · rcases set_cases e with ⟨rfl, hl, ey⟩ | ⟨hne, e⟩
    · cases ey
    · obtain ⟨a, b, q1, q2⟩ := h.bagv j e
      exact ⟨a, b, q1, by rw [set_ne' hne]; exact q2⟩
  · rcases set_cases e with ⟨rfl, hl', ey⟩ | ⟨hne, e⟩
    · cases ey
      exact ⟨l, hl, by rw [List.getElem?_set_self (by rw [h.len]; exact hl')]⟩
    · obtain ⟨a, q1, q2⟩ := h.obv j ko e
      exact ⟨a, q1, by rw [set_ne' hne]; exact q2⟩
  · rcases set_cases e with ⟨rfl, hl, ey⟩ | ⟨hne, e⟩
    · cases ey
    · obtain ⟨n, cl, q1, q2⟩ := h.own j c e
      exact ⟨n, cl, by rw [set_ne' hne]; exact q1, q2⟩
  · rcases set_cases e1 with ⟨_, _, ey⟩ | ⟨hj, e1⟩
    · cases ey
    · rcases set_cases e2 with ⟨_, _, ey⟩ | ⟨hk, e2⟩
      · cases ey
      · rw [set_ne' hj] at e3
        rw [set_ne' hk] at e4
        exact h.dst j k c c' n e1 e2 e3 e4
theorem sim_setF {i : Nat} (ha : SimE tl ga fa) : SimS tl (pSetF i ga) (sSet i fa) := fun B n0 A env m pe s h =>
  relS_rs h (ha B n0 A env m pe s h) fun v w m1 s1 f1 w1 b1 r1 => by
    cases e : setF i v pe with
    | none => trivial
    | some pe' =>
      obtain ⟨x, e1, e2⟩ := Option.map_eq_some_iff.mp e
      subst e2
      exact relS_nx ((h.step f1 w1 b1).set (frz_ok r1 e1))
theorem sim_asg {t : Tg} (ha : SimE tl ga fa) : SimS tl (pAsg t ga) (sAsg t fa) := fun B n0 A env m pe s h =>
  relS_rs h (ha B n0 A env m pe s h) fun v w m1 s1 f1 w1 b1 r1 => by
    cases e : frz v with
    | none => simp only [e]; trivial
    | some x =>
      simp only [e]
      cases e2 : putP t x pe with
      | none => trivial
      | some pe' =>
        obtain ⟨env', q1, q2⟩ := SR.putT t (h.step f1 w1 b1) (frz_ok r1 e) e2
        rw [q1]
        exact relS_nx q2
theorem sim_aug {i : Nat} {o : Op2} {p : PV → PV → Option PV} (ho : Op2Ok o p) (ha : SimE tl ga fa) : SimS tl (pAug i p ga) (sAug i o fa) := fun B n0 A env m pe s h => by
  unfold pAug sAug
  split
  · rename_i x e
    obtain ⟨w0, e0, r0⟩ := h.val i x e
    rw [e0]
    refine relS_rs h (ha B n0 A env m pe s h) fun v w m1 s1 f1 w1 b1 r1 => ?_
    have h1 := h.step f1 w1 b1
    cases e2 : p (.d x) v with
    | none => simp only [e2]; trivial
    | some v' =>
      simp only [e2]
      have r0' : VR pe env B A 0 m1 (.d x) w0 := r0.fr h.bag.sub f1
      obtain ⟨w3, m3, q1, nx, r3⟩ := ho h1 r0' (r1.base (Nat.zero_le _)) e2
      rw [q1]
      cases e3 : setF i v' pe with
      | none => trivial
      | some pe' =>
        obtain ⟨y, e4, e5⟩ := Option.map_eq_some_iff.mp e3
        subst e5
        have f3 : Fr (bagC B) m1 m3 := nx.fr0.any
        have h3 := h1.step f3 (nx.wf h1.wf) (h1.bag.fr0 nx.fr0)
        exact (relS_nx (h3.set (frz_ok r3 e4))).pre (.fr h.bag.sub h1.le f3)
  · trivial
end
/-- own: which of them may change later -/
def thaw : List Bool → List PV → Option (List PV)
  | [], [] => some []
  | b :: bs, v :: vs => match v with
    | .fr c => (thaw bs vs).map fun r => (if b = true then .fr c else .d c.toD) :: r
    | .d x => (thaw bs vs).map fun r => .d x :: r
    | _ => none
  | _, _ => none
def setsP : List Nat → List PV → PEnv → Option PEnv
  | [], [], e => some e
  | i :: is, v :: vs, e => match v with
    | .d x => setsP is vs (e.set i (.d x))
    | .fr c => setsP is vs (e.set i (.own c))
    | _ => none
  | _, _, _ => none
def pPar (is : List Nat) (own : List Bool) (f : Pe (List PV)) : Ps := fun e s => prs (f e s) e fun vs s => match thaw own vs with
  | some vs => match setsP is vs e with
    | some e => .go .nx e s
    | none => .stuck
  | none => .stuck
/-- the cells of those that may change -/
def growO (A : List Nat) : List Bool → List PV → List Wd → List Nat
  | b :: bs, v :: vs, w :: ws => growO (if b = true then grow A v w else A) bs vs ws
  | _, _, _ => A
section
variable {tl : List (Str × Str)} {B : Lo} {n0 b0 b1 : Nat} {A A' A2 : List Nat} {env env0 : DL.Env} {m m' m1 m2 : Mm} {pe pe0 : PEnv} {s s' : Bg}
/-- a slot gets a cell that is tracked already, and no other slot's -/
theorem SR.setOwn (h : SR tl B n0 A env m pe s) {i n : Nat} {cl : Cell} {c : Co} (hA : n ∈ A) (h0 : n0 ≤ n) (hb : n ∉ bagA B) (hh : Has m n cl) (hc : RdC m A cl c) (hno : ∀ (j : Nat) c', pe[j]? = some (.own c') → env[j]? ≠ some (some (.ref n))) :
    SR tl B n0 A (env.set i (some (.ref n))) m (pe.set i (.own c)) s := by
  refine ⟨h.wf, h.le, by simp [h.len], fun j y e => ?_, fun j e => ?_, fun j ko e => ?_, fun j c' e => ?_, fun j k c1 c2 n' e1 e2 e3 e4 => ?_, h.bag, h.alt, h.tab⟩
  · rcases set_cases e with ⟨rfl, hl, ey⟩ | ⟨hne, e⟩
    · cases ey
    · obtain ⟨w', q1, q2⟩ := h.val j y e
      exact ⟨w', by rw [set_ne' hne]; exact q1, q2⟩
  · rcases set_cases e with ⟨rfl, hl, ey⟩ | ⟨hne, e⟩
    · cases ey
    · obtain ⟨a, b, q1, q2⟩ := h.bagv j e
      exact ⟨a, b, q1, by rw [set_ne' hne]; exact q2⟩
  · rcases set_cases e with ⟨rfl, hl, ey⟩ | ⟨hne, e⟩
    · cases ey
    · obtain ⟨a, q1, q2⟩ := h.obv j ko e
      exact ⟨a, q1, by rw [set_ne' hne]; exact q2⟩
  · rcases set_cases e with ⟨rfl, hl, ey⟩ | ⟨hne, e⟩
    · cases ey
      exact ⟨n, cl, by rw [List.getElem?_set_self (by rw [h.len]; exact hl)], hA, h0, hb, hh, hc⟩
    · obtain ⟨k, cl', q1, q2⟩ := h.own j c' e
      exact ⟨k, cl', by rw [set_ne' hne]; exact q1, q2⟩
  · rcases set_cases e1 with ⟨ej, hl, ey⟩ | ⟨hj, g1⟩
    · rw [ej, List.getElem?_set_self (by rw [h.len, ← ej]; exact hl)] at e3
      cases e3
      rcases set_cases e2 with ⟨ek, _, _⟩ | ⟨hk, g2⟩
      · rw [ej, ek]
      · rw [set_ne' hk] at e4
        exact absurd e4 (hno k c2 g2)
    · rw [set_ne' hj] at e3
      rcases set_cases e2 with ⟨ek, hl, ey⟩ | ⟨hk, g2⟩
      · rw [ek, List.getElem?_set_self (by rw [h.len, ← ek]; exact hl)] at e4
        cases e4
        exact absurd e3 (hno j c1 g1)
      · rw [set_ne' hk] at e4
        exact h.dst j k c1 c2 n' g1 g2 e3 e4
theorem growO_self : ∀ (own : List Bool) (vs : List PV) (ws : List Wd) (A : List Nat), ∀ k ∈ A, k ∈ growO A own vs ws
  | b :: bs, v :: vs, w :: ws, A, k, hk => growO_self bs vs ws _ k (by
    by_cases hb : b = true
    · rw [if_pos hb]; exact grow_self v w k hk
    · rw [if_neg hb]; exact hk)
  | [], _, _, _, _, hk => hk
  | _ :: _, [], _, _, _, hk => hk
  | _ :: _, _ :: _, [], _, _, hk => hk
/-- what is tracked in the end: what was, or what lies above, and is there -/
theorem growO_above : ∀ (own : List Bool) (vs : List PV) (ws : List Wd) (A A1 : List Nat) (b0 : Nat), VRs pe0 env0 B A b0 m vs ws → ∀ k ∈ growO A1 own vs ws, k ∈ A1 ∨ (b0 ≤ k ∧ k < m.cells.length)
  | b :: bs, v :: vs, w :: ws, A, A1, b0, ⟨m1, h1, h2, h3, h4, h5⟩, k, hk => by
    rcases growO_above bs vs ws _ _ _ h5 k hk with z | z
    · by_cases hb : b = true
      · rw [if_pos hb] at z
        unfold grow at z
        split at z
        · obtain ⟨n, cl, e, g1, g2, g3, g4⟩ := h3
          cases e
          rcases List.mem_cons.mp z with e | z
          · rw [e]; exact .inr ⟨g1, Nat.lt_of_lt_of_le g3.lt h2.le⟩
          · exact .inl z
        · exact .inl z
      · rw [if_neg hb] at z; exact .inl z
    · exact .inr ⟨Nat.le_trans h1 z.1, z.2⟩
  | [], _, _, _, _, _, _, k, hk => .inl hk
  | _ :: _, [], _, _, _, _, _, k, hk => .inl hk
  | _ :: _, _ :: _, [], _, _, _, _, k, hk => .inl hk
theorem growO_sub : ∀ (own : List Bool) (vs : List PV) (ws : List Wd) (A : List Nat), ∀ k ∈ growO A own vs ws, k ∈ grs vs ws ++ A
  | [], _, _, A, k, hk => List.mem_append_right _ hk
  | _ :: _, [], _, A, k, hk => List.mem_append_right _ hk
  | _ :: _, _ :: _, [], A, k, hk => List.mem_append_right _ hk
  | o :: own, v :: vs, w :: ws, A, k, hk => by
    have h := growO_sub own vs ws _ k hk
    rcases List.mem_append.mp h with z | z
    · exact List.mem_append_left _ (List.mem_append_right _ z)
    · by_cases ho : o = true
      · rw [if_pos ho, grow_app] at z
        rcases List.mem_append.mp z with z | z
        · exact List.mem_append_left _ (List.mem_append_left _ z)
        · exact List.mem_append_right _ z
      · rw [if_neg ho] at z
        exact List.mem_append_right _ z
theorem sets_ok : ∀ (is : List Nat) (own : List Bool) (vs us : List PV) (ws : List Wd) (A A1 AF : List Nat) (env : DL.Env) (pe pe' : PEnv) (b0 : Nat), VRs pe0 env0 B A b0 m' vs ws → growO A1 own vs ws = AF → (∀ k ∈ A1, k ∈ A) → n0 ≤ b0 → (∀ k ∈ bagA B, k ∈ A) → SR tl B n0 AF env m' pe s →
    (∀ (j : Nat) c n, pe[j]? = some (.own c) → env[j]? = some (some (.ref n)) → n < b0) → thaw own vs = some us → setsP is us pe = some pe' → ∃ env', setsE is ws env = some env' ∧ SR tl B n0 AF env' m' pe' s
  | is, [], [], us, ws, A, A1, AF, env, pe, pe', b0, r, eF, hs, h0, hb, h, hlt, et, es => by
    cases et
    cases ws with
    | cons _ _ => exact r.elim
    | nil =>
      cases is with
      | nil => cases es; exact ⟨env, rfl, h⟩
      | cons _ _ => cases es
  | is, [], _ :: _, us, ws, A, A1, AF, env, pe, pe', b0, r, eF, hs, h0, hb, h, hlt, et, es => by cases et
  | is, _ :: _, [], us, ws, A, A1, AF, env, pe, pe', b0, r, eF, hs, h0, hb, h, hlt, et, es => by cases et
  | is, o :: own, v :: vs, us, ws, A, A1, AF, env, pe, pe', b0, r, eF, hs, h0, hb, h, hlt, et, es => by
    cases ws with
    | nil => exact r.elim
    | cons w ws =>
      obtain ⟨m1, h1, h2, h3, h4, h5⟩ := r
      have hB : ∀ k ∈ bagC B, k ∈ A := fun k hk => hb k (bagC_A hk)
      have hs2 : ∀ k ∈ (if o = true then grow A1 v w else A1), k ∈ grow A v w := fun k hk => by
        by_cases ho : o = true
        · rw [if_pos ho] at hk; exact grow_sub hs v w k hk
        · rw [if_neg ho] at hk; exact grow_self v w k (hs k hk)
      have eF' : growO (if o = true then grow A1 v w else A1) own vs ws = AF := eF
      -- a value of m1 in the end's memory
      have mvA : ∀ {A2 : List Nat}, (∀ k ∈ (if o = true then grow A1 v w else A1), k ∈ A2) → (∀ k ∈ bagC B, k ∈ A2) → ∀ k c, Has m1 k c → k ∉ A2 → Has m' k c ∧ k ∉ AF := fun {A2} g1 g2 k c hk hn => ⟨h2.has hk fun z => hn (g2 k z), fun z => by
        rw [← eF'] at z
        rcases growO_above own vs ws _ _ _ h5 k z with z | z
        · exact hn (g1 k z)
        · have := hk.lt; omega⟩
      have next : ∀ (us' : List PV) (i : Nat) (is' : List Nat) (env1 : DL.Env) (pe1 : PEnv), SR tl B n0 AF env1 m' pe1 s → (∀ (j : Nat) c n, pe1[j]? = some (.own c) → env1[j]? = some (some (.ref n)) → n < m1.cells.length) → thaw own vs = some us' → setsP is' us' pe1 = some pe' →
          env1 = env.set i (some w) → ∃ env', setsE (i :: is') (w :: ws) env = some env' ∧ SR tl B n0 AF env' m' pe' s := fun us' i is' env1 pe1 hh hl2 e1 e2 e3 => by
        obtain ⟨env', q1, q2⟩ := sets_ok is' own vs us' ws _ _ AF env1 pe1 pe' m1.cells.length h5 eF' hs2 (Nat.le_trans h0 h1) (fun k hk => grow_self v w k (hb k hk)) hh hl2 e1 e2
        refine ⟨env', ?_, q2⟩
        show setsE is' ws (env.set i (some w)) = some env'
        rw [← e3]
        exact q1
      have keep : ∀ {i : Nat} {x : PyData} (w' : Wd), ∀ (j : Nat) c n, (pe.set i (.d x))[j]? = some (.own c) → (env.set i (some w'))[j]? = some (some (.ref n)) → n < m1.cells.length := fun {i x} w' j c n e1 e2 => by
        rcases set_cases e1 with ⟨_, _, ey⟩ | ⟨hj, e1⟩
        · cases ey
        · rw [set_ne' hj] at e2
          exact Nat.lt_of_lt_of_le (hlt j c n e1 e2) h1
      cases v with
      | bo _ _ => cases et
      | bag => cases et
      | ob _ => cases et
      | d x =>
        obtain ⟨us', e1, e2⟩ := Option.map_eq_some_iff.mp (show (thaw own vs).map (fun r => PV.d x :: r) = some us from et)
        subst e2
        cases is with
        | nil => cases es
        | cons i is =>
          have es' : setsP is us' (pe.set i (.d x)) = some pe' := es
          have rd : RdA m' AF w x := RdA.mv (mvA (A2 := A) (fun k hk => by
            have : k ∈ A1 := by
              by_cases ho : o = true
              · rw [if_pos ho] at hk; exact hk
              · rw [if_neg ho] at hk; exact hk
            exact hs k this) hB) h3
          exact next us' i is _ _ (h.set rd) (keep w) e1 es' rfl
      | fr c =>
        obtain ⟨us', e1, e2⟩ := Option.map_eq_some_iff.mp (show (thaw own vs).map (fun r => (if o = true then PV.fr c else .d c.toD) :: r) = some us from et)
        subst e2
        cases is with
        | nil => cases es
        | cons i is =>
          obtain ⟨n, cl, ew, g1, g2, g3, g4⟩ := h3
          subst ew
          by_cases ho : o = true
          · subst ho
            have es' : setsP is us' (pe.set i (.own c)) = some pe' := es
            have hn : n ∈ AF := by rw [← eF']; exact growO_self _ _ _ _ n List.mem_cons_self
            have nB : n ∉ bagA B := fun z => g2 (hb n z)
            have hc : RdC m' AF cl c := g4.mv (mvA (A2 := n :: A) (fun k hk => by
              rcases List.mem_cons.mp (show k ∈ n :: A1 from hk) with e | z
              · rw [e]; exact List.mem_cons_self
              · exact List.mem_cons_of_mem _ (hs k z)) (fun k hk => List.mem_cons_of_mem _ (hB k hk)))
            refine next us' i is _ _ (h.setOwn hn (Nat.le_trans h0 g1) nB (h2.has g3 fun z => nB (bagC_A z)) hc fun j c' e e' => ?_) (fun j c' n' e e' => ?_) e1 es' rfl
            · have := hlt j c' n e e'
              omega
            · rcases set_cases e with ⟨ej, hl, _⟩ | ⟨hj, e⟩
              · rw [ej, List.getElem?_set_self (by rw [h.len, ← ej]; exact hl)] at e'
                cases e'
                exact g3.lt
              · rw [set_ne' hj] at e'
                exact Nat.lt_of_lt_of_le (hlt j c' n' e e') h1
          · have eo : o = false := by simpa using ho
            subst eo
            have es' : setsP is us' (pe.set i (.d c.toD)) = some pe' := es
            have mv1 := mvA (A2 := A) (fun k hk => hs k hk) hB
            have hn : n ∉ AF := (mv1 n cl g3 g2).2
            have rd : RdA m' AF (.ref n) c.toD := .of (h2.has g3 fun z => g2 (hB n z)) hn (g4.dropA.mv mv1)
            exact next us' i is _ _ (h.set rd) (keep _) e1 es' rfl
theorem sim_par {is : List Nat} {own : List Bool} {ga : Pe (List PV)} {fa : Em (List Wd)} (ha : SimA tl ga fa) : SimS tl (pPar is own ga) (sPar is fa) := fun B n0 A env m pe s h =>
  relS_rs0 h (ha B n0 A env m pe s h) fun vs ws m1 s1 f1 w1 b1 r1 => by
    cases e : thaw own vs with
    | none => simp only [e]; trivial
    | some us =>
      simp only [e]
      cases e2 : setsP is us pe with
      | none => trivial
      | some pe' =>
        have ab := growO_above own vs ws A A m.cells.length r1
        have hs := growO_self own vs ws A
        have h1 : SR tl B n0 (growO A own vs ws) env m1 pe s1 := h.growA f1 w1 (b1.2.anti (growO_sub own vs ws A) fun k hk => hs k (bagA_sub h.bag k hk)) (fun k hk => (ab k hk).imp id fun z => z.1) hs fun k hk => by
          rcases ab k hk with z | z
          · exact Nat.lt_of_lt_of_le (h.alt k z) f1.le
          · exact z.2
        obtain ⟨env', q1, q2⟩ := sets_ok is own vs us ws A A _ env pe pe' m.cells.length r1 rfl (fun k hk => hk) h.le (bagA_sub h.bag) h1 (fun j c n e1 e2 => by
          obtain ⟨n', cl, e3, _, _, _, g, _⟩ := h.own j c e1
          rw [e2] at e3
          cases e3
          exact g.lt) e e2
        rw [q1]
        have hB := h.bag.sub
        exact ⟨.nx, env', m1, _, rfl, ⟨f1.le, fun k hk hn => f1.eq k (Nat.lt_of_lt_of_le hk h.le) hn, fun k hk hn => f1.eq k hk fun z => hn (hB k z), fun k hk => (ab k hk).imp id fun z => z.1, fun k hk _ => hs k hk⟩, q2⟩
end
def pSubS (j : Nat) (gi gv : Pe PV) : Ps := fun e s => match e[j]? with
  | some (.own (.l xs)) => prs (gv e s) e fun v s => prs (gi e s) e fun i s => match i, frz v with
    | .d (.int k), some y => match ixN xs.length k with
      | some n => .go .nx (e.set j (.own (.l (xs.set n y)))) s
      | none => .stuck
    | _, _ => .stuck
  | _ => .stuck
def pApp (j : Nat) (g : Pe (List PV)) : Ps := fun e s => match e[j]? with
  | some (.own (.l xs)) => prs (g e s) e fun vs s => match vs with
    | [v] => match frz v with
      | some y => if xs.length < LIM then .go .nx (e.set j (.own (.l (xs ++ [y])))) s else .stuck
      | none => .stuck
    | _ => .stuck
  | _ => .stuck
def pExt (j : Nat) (g : Pe (List PV)) : Ps := fun e s => match e[j]? with
  | some (.own (.l xs)) => prs (g e s) e fun vs s => match vs with
    | [v] => match lstP v with
      | some ys => if xs.length + ys.length ≤ LIM then .go .nx (e.set j (.own (.l (xs ++ ys)))) s else .stuck
      | none => .stuck
    | _ => .stuck
  | _ => .stuck
section
variable {tl : List (Str × Str)} {B : Lo} {n0 b0 b1 : Nat} {A A' A2 : List Nat} {env env0 : DL.Env} {m m' m1 m2 : Mm} {pe pe0 : PEnv} {s s' : Bg} {ga gb : Pe PV} {fa fb : Em Wd}
theorem own_lst (h : SR tl B n0 A env m pe s) {j : Nat} {xs : List PyData} (e : pe[j]? = some (.own (.l xs))) : ∃ n ws, env[j]? = some (some (.ref n)) ∧ n ∈ A ∧ n0 ≤ n ∧ Has m n (.lst ws) ∧ RdsA m A ws xs := by
  obtain ⟨n, cl, e1, g1, g2, g3, g4, g5⟩ := h.own j _ e
  cases cl with
  | lst ws => exact ⟨n, ws, e1, g1, g2, g4, g5⟩
  | _ => exact g5.elim
theorem put_st (h : SR tl B n0 A env m pe s) {n : Nat} {c : Cell} {p : Bool} (hA : n ∈ A) (h0 : n0 ≤ n) : St B n0 A m A (m.put n c p) := by
  have eq : ∀ k, k ≠ n → (m.put n c p).cells[k]? = m.cells[k]? := fun k hk => by
    show (m.cells.set n c)[k]? = _
    exact List.getElem?_set_ne (Ne.symm hk)
  exact ⟨by rw [put_len]; exact Nat.le_refl _, fun k hk hn => eq k (by omega), fun k hk hn => eq k fun z => hn (by rw [z]; exact hA), fun k hk => .inl hk, fun k hk _ => hk⟩
theorem ltAll_app {b : Nat} {x y : List Wd} : Wd.ltAll b (x ++ y) = (Wd.ltAll b x && Wd.ltAll b y) := by
  rw [Bool.eq_iff_iff, Bool.and_eq_true, ltAll_iff, ltAll_iff, ltAll_iff]
  simp only [List.mem_append]
  exact ⟨fun h => ⟨fun w hw => h w (.inl hw), fun w hw => h w (.inr hw)⟩, fun h w hw => hw.elim (h.1 w) (h.2 w)⟩
theorem rs_bind {α β : Type} (r : Rs α) (env : DL.Env) (k : α → Mm → Rs β) (K : β → Mm → Sr) : rs (r.bind k) env K = rs r env fun a m => rs (k a m) env K := by
  cases r <;> rfl
theorem sim_app {j : Nat} {g : Pe (List PV)} {f : Em (List Wd)} (hg : SimA tl g f) : SimS tl (pApp j g) (sDrop (eM appO (eV j) f)) := fun B n0 A env m pe s h => by
  unfold pApp
  split
  · rename_i xs e
    obtain ⟨n, ws, e1, hA, hn0, hh, hr⟩ := own_lst h e
    have ev : eM appO (eV j) f env m = (f env m).bind fun ws m => Rs.of (appO (.ref n) ws m) := by
      unfold eM eV
      rw [e1]
      simp only [Rs.bind_ok, show m.cells[n]? = some (.lst ws) from hh]
    unfold sDrop
    rw [ev, rs_bind]
    refine relS_rs h (hg B n0 A env m pe s h) fun vs us m1 s1 f1 w1 b1 r1 => ?_
    have h1 := h.step f1 w1 b1
    obtain ⟨n', ws', e1', hA', hn0', hh', hr'⟩ := own_lst h1 e
    rw [e1] at e1'
    cases e1'
    split
    · rename_i v
      obtain ⟨w, q, r2⟩ := vrs1 h.bag.sub r1
      subst q
      cases ey : frz v with
      | none => trivial
      | some y =>
        simp only []
        have rv := frz_ok r2 ey
        by_cases hl : xs.length < LIM
        · rw [if_pos hl]
          have es : appO (.ref n) [w] m1 = some (.d .none, m1.put n (.lst (ws' ++ [w])) (w.lt 0)) := by
            unfold appO
            simp only [show m1.cells[n]? = some (.lst ws') from hh', hr'.length, if_pos hl]
          rw [es]
          have r3 : RdC m1 A (.lst (ws' ++ [w])) (.l (xs ++ [y])) := hr'.append (.cons rv .nil)
          have h3 := h1.put (pure := w.lt 0) e e1 hh' r3 (fun hp b hb => by
            show Wd.ltAll b (ws' ++ [w]) = true
            rw [ltAll_app, show Wd.ltAll b ws' = true from hb]
            show (true && (w.lt b && true)) = true
            rw [Wd.lt_mono (Nat.zero_le _) hp]; rfl) (fun _ _ z => by cases z)
          exact ⟨.nx, env, _, A, rfl, put_st h1 hA hn0, h3⟩
        · rw [if_neg hl]; trivial
    · trivial
  · trivial
theorem sim_ext {j : Nat} {g : Pe (List PV)} {f : Em (List Wd)} (hg : SimA tl g f) : SimS tl (pExt j g) (sDrop (eM extO (eV j) f)) := fun B n0 A env m pe s h => by
  unfold pExt
  split
  · rename_i xs e
    obtain ⟨n, ws, e1, hA, hn0, hh, hr⟩ := own_lst h e
    have ev : eM extO (eV j) f env m = (f env m).bind fun ws m => Rs.of (extO (.ref n) ws m) := by
      unfold eM eV
      rw [e1]
      simp only [Rs.bind_ok, show m.cells[n]? = some (.lst ws) from hh]
    unfold sDrop
    rw [ev, rs_bind]
    refine relS_rs h (hg B n0 A env m pe s h) fun vs us m1 s1 f1 w1 b1 r1 => ?_
    have h1 := h.step f1 w1 b1
    obtain ⟨n', ws', e1', hA', hn0', hh', hr'⟩ := own_lst h1 e
    rw [e1] at e1'
    cases e1'
    split
    · rename_i v
      obtain ⟨w, q, r2⟩ := vrs1 h.bag.sub r1
      subst q
      cases ey : lstP v with
      | none => trivial
      | some ys =>
        simp only []
        obtain ⟨k, us, q1, q2, q3⟩ := lst_ok h1 r2 ey
        subst q1
        by_cases hl : xs.length + ys.length ≤ LIM
        · rw [if_pos hl]
          have es : extO (.ref n) [.ref k] m1 = some (.d .none, m1.put n (.lst (ws' ++ us)) (Wd.ltAll 0 us)) := by
            unfold extO
            simp only [show m1.cells[n]? = some (.lst ws') from hh', show m1.cells[k]? = some (.lst us) from q2, hr'.length, q3.length, if_pos hl]
          rw [es]
          have r3 : RdC m1 A (.lst (ws' ++ us)) (.l (xs ++ ys)) := hr'.append q3
          have h3 := h1.put (pure := Wd.ltAll 0 us) e e1 hh' r3 (fun hp b hb => by
            show Wd.ltAll b (ws' ++ us) = true
            rw [ltAll_app, show Wd.ltAll b ws' = true from hb, Wd.ltAll_mono (Nat.zero_le _) hp]; rfl) (fun _ _ z => by cases z)
          exact ⟨.nx, env, _, A, rfl, put_st h1 hA hn0, h3⟩
        · rw [if_neg hl]; trivial
    · trivial
  · trivial
end
end PD
set_option Elab.async false
set_option linter.all false
set_option maxRecDepth 100000
set_option maxHeartbeats 2000000
namespace PD
open PySem PySem.Spec PyProof.Rows L2 DL
def whPN (c : Pe Bool) (b : Ps) : Nat → Ps
  | 0 => fun _ _ => .stuck
  | n + 1 => fun e s => prs (c e s) e fun t s => if t = true then (match b e s with
    | .go .nx e s => whPN c b n e s
    | .go .ct e s => whPN c b n e s
    | .go .bk e s => .go .nx e s
    | r => r) else .go .nx e s
open Classical in
noncomputable def pWh (c : Pe Bool) (b : Ps) : Ps := fun e s => if h : ∃ n, whPN c b n e s ≠ .stuck then whPN c b (Classical.choose h) e s else .stuck
theorem whPN_mono {c : Pe Bool} {b : Ps} : ∀ {n : Nat} {e : PEnv} {s : Bg}, whPN c b n e s ≠ .stuck → whPN c b (n + 1) e s = whPN c b n e s
  | 0, e, s, h => absurd rfl h
  | n + 1, e, s, h => by
    have h' : prs (c e s) e (fun t s => if t = true then (match b e s with
      | .go .nx e s => whPN c b n e s
      | .go .ct e s => whPN c b n e s
      | .go .bk e s => .go .nx e s
      | r => r) else .go .nx e s) ≠ .stuck := h
    show prs (c e s) e (fun t s => if t = true then (match b e s with
      | .go .nx e s => whPN c b (n + 1) e s
      | .go .ct e s => whPN c b (n + 1) e s
      | .go .bk e s => .go .nx e s
      | r => r) else .go .nx e s) = prs (c e s) e (fun t s => if t = true then (match b e s with
      | .go .nx e s => whPN c b n e s
      | .go .ct e s => whPN c b n e s
      | .go .bk e s => .go .nx e s
      | r => r) else .go .nx e s)
    cases q : c e s with
    | stuck => rfl
    | exc x s1 => rfl
    | ok t s1 =>
      rw [q] at h'
      simp only [prs_ok] at h' ⊢
      cases t with
      | false => rfl
      | true =>
        simp only [if_true] at h' ⊢
        cases q2 : b e s1 with
        | stuck => rfl
        | exc _ _ _ => rfl
        | go f e2 s2 =>
          rw [q2] at h'
          cases f with
          | nx => exact whPN_mono h'
          | ct => exact whPN_mono h'
          | bk => rfl
          | rt v => rfl
theorem whPN_le {c : Pe Bool} {b : Ps} {n k : Nat} {e : PEnv} {s : Bg} (h : whPN c b n e s ≠ .stuck) : whPN c b (n + k) e s = whPN c b n e s := by
  induction k with
  | zero => rfl
  | succ k ih => rw [← Nat.add_assoc, whPN_mono (by rw [ih]; exact h), ih]
theorem pWh_of {c : Pe Bool} {b : Ps} {n : Nat} {e : PEnv} {s : Bg} {r : PS} (h : whPN c b n e s = r) (hr : r ≠ .stuck) : pWh c b e s = r := by
  have h1 : ∃ n, whPN c b n e s ≠ .stuck := ⟨n, by rw [h]; exact hr⟩
  unfold pWh
  rw [dif_pos h1]
  have h2 := Classical.choose_spec h1
  have a := whPN_le (k := n) h2
  have b' := whPN_le (k := Classical.choose h1) (show whPN c b n e s ≠ .stuck by rw [h]; exact hr)
  rw [Nat.add_comm] at b'
  rw [← a, b', h]
def pForL (t : Tg) (b : Ps) : List PyData → Ps
  | [] => fun e s => .go .nx e s
  | x :: xs => fun e s => match putP t x e with
    | none => .stuck
    | some e => match b e s with
      | .go .nx e s => pForL t b xs e s
      | .go .ct e s => pForL t b xs e s
      | .go .bk e s => .go .nx e s
      | r => r
def pFor (g : Pe PIt) (t : Tg) (b : Ps) : Ps := fun e s => prs (g e s) e fun p s => if p.free = true then pForL t b p.xs e s else .stuck
section
variable {tl : List (Str × Str)} {B : Lo} {n0 b0 b1 : Nat} {A A' A2 : List Nat} {env env0 : DL.Env} {m m' m1 m2 : Mm} {pe pe0 : PEnv} {s s' : Bg} {ga gb : Pe PV} {fa fb : Em Wd} {t : Pe Bool} {c : Em Bool} {p : Ps} {P : Sm}
theorem sim_wh (hc : SimT tl t c) (hb : SimS tl p P) : SimS tl (pWh t p) (sWh c P) := fun B n0 A env m pe s h => by
  have key : ∀ (n : Nat) (A : List Nat) (env : DL.Env) (m : Mm) (pe : PEnv) (s : Bg), SR tl B n0 A env m pe s → RelS tl B n0 A m (whPN t p n pe s) (sWh c P env m) := by
    intro n
    induction n with
    | zero => intros; trivial
    | succ n ih =>
      intro A env m pe s h
      rw [sWh_unf]
      show RelS tl B n0 A m (prs (t pe s) pe fun t s => if t = true then (match p pe s with
        | .go .nx e s => whPN _ p n e s
        | .go .ct e s => whPN _ p n e s
        | .go .bk e s => .go .nx e s
        | r => r) else .go .nx pe s) _
      refine relS_rs h (hc B n0 A env m pe s h) fun v w m1 s1 f1 w1 b1 r1 => ?_
      subst r1
      have h1 := h.step f1 w1 b1
      cases v with
      | false => exact relS_nx h1
      | true =>
        simp only [if_true]
        have hh := hb B n0 A env m1 pe s1 h1
        cases e : p pe s1 with
        | stuck => trivial
        | exc x pe' s' =>
          rw [e] at hh
          obtain ⟨x', env', m', A', e1, r⟩ := hh
          rw [e1]
          exact ⟨x', env', m', A', rfl, r⟩
        | go fl pe' s' =>
          rw [e] at hh
          obtain ⟨fl', env', m', A', e1, st, r⟩ := hh
          rw [e1]
          cases fl with
          | nx => cases fl' with
            | nx => exact (ih A' env' m' pe' s' r).pre st
            | _ => exact r.elim
          | ct => cases fl' with
            | ct => exact (ih A' env' m' pe' s' r).pre st
            | _ => exact r.elim
          | bk => cases fl' with
            | bk => exact ⟨.nx, env', m', A', rfl, st, r⟩
            | _ => exact r.elim
          | rt v => cases fl' with
            | rt w => exact ⟨.rt w, env', m', A', rfl, st, r⟩
            | _ => exact r.elim
  unfold pWh
  split
  · exact key _ A env m pe s h
  · trivial
theorem sim_forL {t : Tg} {p : Ps} {P : Sm} (hb : SimS tl p P) {B : Lo} {n0 : Nat} {gd : Gd} : ∀ (xs : List PyData) (ws : List Wd) (A : List Nat) (env : DL.Env) (m : Mm) (pe : PEnv) (s : Bg), SR tl B n0 A env m pe s → RdsA m A ws xs → (gd = [] ∨ ∃ n us, gd = [(n, us)] ∧ Has m n us ∧ n ∉ A) →
    RelS tl B n0 A m (pForL t p xs pe s) (forL t P gd ws env m) := by
  intro xs
  induction xs with
  | nil =>
    intro ws A env m pe s h hw hg
    cases hw
    have gd1 : gdOk gd m = true := by
      rcases hg with e | ⟨n, us, e, hh, _⟩
      · rw [e]; exact gdOk_nil
      · rw [e]; exact gdOk_one hh
    unfold forL
    rw [if_pos gd1]
    exact relS_nx h
  | cons x xs ih =>
    intro ws A env m pe s h hw hg
    cases hw with
    | @cons w ws _ _ hx hxs =>
      have gd1 : gdOk gd m = true := by
        rcases hg with e | ⟨n, us, e, hh, _⟩
        · rw [e]; exact gdOk_nil
        · rw [e]; exact gdOk_one hh
      unfold forL pForL
      rw [if_pos gd1]
      cases e : putP t x pe with
      | none => simp only [e]; trivial
      | some pe1 =>
        obtain ⟨env1, q1, h1⟩ := SR.putT t h hx e
        simp only [e, q1]
        have hh := hb B n0 A env1 m pe1 s h1
        have go : ∀ {env' m' A' pe' s'}, St B n0 A m A' m' → SR tl B n0 A' env' m' pe' s' → RelS tl B n0 A m (pForL t p xs pe' s') (forL t P gd ws env' m') := fun {env' m' A' pe' s'} st r => by
          have mv : ∀ k c, Has m k c → k ∉ A → Has m' k c ∧ k ∉ A' := fun k c hk hn => ⟨(st.fix k hk.lt hn).trans hk, fun z => by
            rcases st.sub k z with z | z
            · exact hn z
            · have := hk.lt; omega⟩
          refine (ih ws A' env' m' pe' s' r (hxs.mv mv) ?_).pre st
          rcases hg with e | ⟨n, us, e, hh, hn⟩
          · exact .inl e
          · exact .inr ⟨n, us, e, (mv n _ hh hn).1, (mv n _ hh hn).2⟩
        cases e : p pe1 s with
        | stuck => trivial
        | exc x pe' s' =>
          rw [e] at hh
          obtain ⟨x', env', m', A', e1, r⟩ := hh
          rw [e1]
          exact ⟨x', env', m', A', rfl, r⟩
        | go fl pe' s' =>
          rw [e] at hh
          obtain ⟨fl', env', m', A', e1, st, r⟩ := hh
          rw [e1]
          cases fl with
          | nx => cases fl' with
            | nx => exact go st r
            | _ => exact r.elim
          | ct => cases fl' with
            | ct => exact go st r
            | _ => exact r.elim
          | bk => cases fl' with
            | bk => exact ⟨.nx, env', m', A', rfl, st, r⟩
            | _ => exact r.elim
          | rt v => cases fl' with
            | rt w => exact ⟨.rt w, env', m', A', rfl, st, r⟩
            | _ => exact r.elim
theorem sim_for {g : Pe PIt} {f : Em (List Wd × Gd)} {t : Tg} (hg : SimI tl g f) (hb : SimS tl p P) : SimS tl (pFor g t p) (sFor f t P) := fun B n0 A env m pe s h =>
  relS_rs h (hg B n0 A env m pe s h) fun v w m1 s1 f1 w1 b1 r1 => by
    by_cases hf : v.free = true
    · rw [if_pos hf]
      refine sim_forL hb v.xs w.1 A env m1 pe s1 (h.step f1 w1 b1) r1.1 ?_
      rcases r1.2 with e | ⟨n, us, e, a, _, b⟩
      · exact .inl e
      · exact .inr ⟨n, us, e, a, b hf⟩
    · rw [if_neg hf]; trivial
end
def AR (B : Lo) (A : List Nat) (m : Mm) : PV → Wd → Prop
  | .d x, w => RdA m A w x
  | .bag, w => ∃ i r, B.bag = some (i, r) ∧ w = .ref i
  | .ob k, w => ∃ l, B.obs[k]? = some l ∧ w = .ref l.n
  | _, _ => False
def ARs (B : Lo) (A : List Nat) (m : Mm) : List PV → List Wd → Prop
  | [], [] => True
  | v :: vs, w :: ws => AR B A m v w ∧ ARs B A m vs ws
  | _, _ => False
/-- what a def gives, as data; what it gives as cells -/
def SimF (tl : List (Str × Str)) (P : PFn) (N : Fn) : Prop := ∀ (B : Lo) (A : List Nat) (m : Mm) (s : Bg) (vs : List PV) (ws : List Wd), WF m → BagR B A m s → (∀ n ∈ A, n < m.cells.length) → Tabs tl m → ARs B A m vs ws → RelE (VR [] [] B A) B A m (P vs s) (N ws m)
def toSl : PV → Sl
  | .d x => .d x
  | .bag => .bag
  | .ob k => .ob k
  | _ => .no
def startP (n : Nat) (vs : List PV) : PEnv := vs.map toSl ++ List.replicate (n - vs.length) .no
def runP (n : Nat) (b : Ps) : PFn := fun vs s => match b (startP n vs) s with
  | .go .nx _ s => .ok (.d .none) s
  | .go (.rt v) _ s => .ok v s
  | .exc x _ s => .exc x s
  | _ => .stuck
section
variable {tl : List (Str × Str)} {B : Lo} {n0 b0 b1 : Nat} {A A' A2 : List Nat} {env env0 : DL.Env} {m m' m1 m2 : Mm} {pe pe0 : PEnv} {s s' : Bg}
theorem ARs.length : ∀ {vs : List PV} {ws : List Wd}, ARs B A m vs ws → vs.length = ws.length
  | [], [], _ => rfl
  | _ :: _, _ :: _, h => congrArg (· + 1) (ARs.length h.2)
  | [], _ :: _, h => h.elim
  | _ :: _, [], h => h.elim
theorem ARs.get : ∀ {vs : List PV} {ws : List Wd} {i : Nat} {v : PV}, ARs B A m vs ws → vs[i]? = some v → ∃ w, ws[i]? = some w ∧ AR B A m v w
  | [], [], i, v, _, e => by simp at e
  | _ :: _, _ :: _, 0, v, h, e => by simp at e; subst e; exact ⟨_, rfl, h.1⟩
  | _ :: _, _ :: _, i + 1, v, h, e => by
    obtain ⟨w, e1, r⟩ := ARs.get (i := i) (v := v) h.2 (by simpa using e)
    exact ⟨w, by simpa using e1, r⟩
  | [], _ :: _, _, _, h, _ => h.elim
  | _ :: _, [], _, _, h, _ => h.elim
theorem startP_inv {n i : Nat} {vs : List PV} {sl : Sl} (h : (startP n vs)[i]? = some sl) (hn : sl ≠ .no) : ∃ v, vs[i]? = some v ∧ toSl v = sl := by
  unfold startP at h
  by_cases hi : i < vs.length
  · rw [List.getElem?_append_left (by simpa using hi), List.getElem?_map] at h
    obtain ⟨v, e1, e2⟩ := Option.map_eq_some_iff.mp h
    exact ⟨v, e1, e2⟩
  · rw [List.getElem?_append_right (by simpa using hi), List.getElem?_replicate] at h
    split at h
    · cases h; exact absurd rfl hn
    · cases h
theorem sr_start {n : Nat} {vs : List PV} {ws : List Wd} (w : WF m) (b : BagR B A m s) (ha : ∀ n ∈ A, n < m.cells.length) (ht : Tabs tl m) (hr : ARs B A m vs ws) : SR tl B m.cells.length A (startE n ws) m.openS (startP n vs) s := by
  have env_ : ∀ {i : Nat} {w : Wd}, ws[i]? = some w → (startE n ws)[i]? = some (some w) := fun {i w} e => by
    unfold startE
    have hi := get_of e
    rw [List.getElem?_append_left (by simpa using hi), List.getElem?_map, e]
    rfl
  refine ⟨w.openS, Nat.le_refl _, ?_, fun i x e => ?_, fun i e => ?_, fun i k e => ?_, fun i c e => ?_, fun i j c c' k e1 _ _ _ => ?_, b.mv (fun _ _ h => h) (fun _ _ _ h => h) (bagA_sub b), ha, ht⟩
  · unfold startE startP
    simp [hr.length]
  · obtain ⟨v, e1, e2⟩ := startP_inv e (by simp)
    obtain ⟨w, e3, r⟩ := hr.get e1
    cases v with
    | d y => cases e2; exact ⟨w, env_ e3, RdA.mv (m := m) (m' := m.openS) (A' := A) (fun k c hk hn => ⟨hk, hn⟩) r⟩
    | _ => cases e2
  · obtain ⟨v, e1, e2⟩ := startP_inv e (by simp)
    obtain ⟨w, e3, r⟩ := hr.get e1
    cases v with
    | bag => obtain ⟨a, b, q1, q2⟩ := r; exact ⟨a, b, q1, by rw [env_ e3, q2]⟩
    | _ => cases e2
  · obtain ⟨v, e1, e2⟩ := startP_inv e (by simp)
    obtain ⟨w, e3, r⟩ := hr.get e1
    cases v with
    | ob k' => cases e2; obtain ⟨l, q1, q2⟩ := r; exact ⟨l, q1, by rw [env_ e3, q2]⟩
    | _ => cases e2
  · obtain ⟨v, e1, e2⟩ := startP_inv e (by simp)
    cases v <;> cases e2
  · obtain ⟨v, e1, e2⟩ := startP_inv e1 (by simp)
    cases v <;> cases e2
theorem close_eq {held : Bool} (wf : WF m) {k : Nat} (hk : k < n0) : (m.closeS n0 held).cells[k]? = m.cells[k]? := by
  rcases (wf.close (n0 := n0) (held := held)).2 with e | ⟨_, h2, h3, _⟩
  · rw [e]
  · rw [h2, List.getElem?_take, if_pos hk]
theorem close_le {held : Bool} (wf : WF m) (h : n0 ≤ m.cells.length) : n0 ≤ (m.closeS n0 held).cells.length := by
  rcases (wf.close (n0 := n0) (held := held)).2 with e | ⟨_, h2, h3, _⟩
  · rw [e]; exact h
  · rw [h2, List.length_take]; omega
theorem RdC.cut (hl : m'.cells = m.cells.take n0) (ha : ∀ k c, k < n0 → Has m k c → c.lt n0 = true) {cl : Cell} {c : Co} (h : RdC m A cl c) (hc : cl.lt n0 = true) : RdC m' A cl c := by
  cases cl with
  | lst ws => cases c with
    | l xs => exact RdsA.cut hl ha h hc
    | _ => exact h.elim
  | dct ws => cases c with
    | k xs => exact RdkA.cut hl ha h hc
    | _ => exact h.elim
  | ndc ws => cases c with
    | n xs => exact ⟨RdkA.cut hl ha h.1 hc, h.2⟩
    | _ => exact h.elim
  | gdc ws => cases c with
    | g xs => exact RdkA.cut hl ha h hc
    | _ => exact h.elim
  | ins _ _ => exact h.elim
  | tab _ _ => exact h.elim
theorem FdsR.cut {cs : List (Str × Nat)} (hl : m'.cells = m.cells.take n0) (ha : ∀ k c, k < n0 → Has m k c → c.lt n0 = true) (hk : ∀ q ∈ cs, q.2 < n0) : ∀ {ws : List (Str × Wd)} {xs : List (Str × Fd)}, FdsR B cs A m ws xs → Wd.ltAll n0 (ws.map (·.2)) = true → FdsR B cs A m' ws xs
  | [], [], _, _ => trivial
  | (_, w) :: ws, (_, x) :: _, ⟨e, h, hs⟩, e2 => by
    have e' : (Wd.lt n0 w && Wd.ltAll n0 (ws.map (·.2))) = true := e2
    rw [Bool.and_eq_true] at e'
    refine ⟨e, ?_, FdsR.cut hl ha hk hs e'.2⟩
    cases x with
    | d x => exact RdA.cut hl ha h e'.1
    | c c =>
      obtain ⟨p, cl, e1, e2, h1, r⟩ := h
      have hp := hk _ (look_mem e1)
      exact ⟨p, cl, e1, e2, by show m'.cells[p]? = _; rw [hl]; exact take_get h1 hp, r.cut hl ha (ha p cl hp h1)⟩
    | ob k => exact h
  | [], _ :: _, h, _ => h.elim
  | _ :: _, [], h, _ => h.elim
theorem BagR.cut (hl : m'.cells = m.cells.take n0) (ha : ∀ k c, k < n0 → Has m k c → c.lt n0 = true) (hk : ∀ k ∈ bagA B, k < n0) (h : BagR B A m s) : BagR B A m' s := by
  have hv : ∀ {k c}, k < n0 → Has m k c → Has m' k c := fun {k c} q h => by show m'.cells[k]? = _; rw [hl]; exact take_get h q
  refine ⟨?_, h.2.len, fun k l o e1 e2 => ?_, h.2.nd, h.2.sub⟩
  · have hb := h.1
    have hk' : ∀ k ∈ bag2 B.bag, k < n0 := fun k z => hk k (List.mem_append_left _ z)
    cases q : B.bag with
    | none => trivial
    | some p =>
      obtain ⟨i, r⟩ := p
      rw [q] at hb hk'
      exact ⟨hb.1, hb.2.1, hb.2.2.1, hv (hk' i (by simp [bag2])) hb.2.2.2.1, hv (hk' r (by simp [bag2])) hb.2.2.2.2.1, hb.2.2.2.2.2⟩
  · obtain ⟨⟨ws, e, hf⟩, hc⟩ := h.2.at_ k l o e1 e2
    have h0 : ∀ n ∈ l.all, n < n0 := fun n hn => hk n (List.mem_append_right _ (ob_all e1 n hn))
    have hq : ∀ q ∈ l.cs, q.2 < n0 := fun q hq => h0 q.2 (List.mem_cons_of_mem _ (List.mem_map_of_mem hq))
    have hn := h0 l.n List.mem_cons_self
    refine ⟨⟨ws, hv hn e, hf.cut hl ha hq (ha _ _ hn e)⟩, fun q z => ?_⟩
    obtain ⟨cl, c, g1, g2⟩ := hc q z
    exact ⟨cl, c, hv (hq q z) g1, g2.cut hl ha (ha _ _ (hq q z) g1)⟩
theorem BagR.close {held : Bool} (wf : WF m) (hk : ∀ k ∈ bagA B, k < n0) (h : BagR B A m s) : BagR B A (m.closeS n0 held) s := by
  rcases (wf.close (n0 := n0) (held := held)).2 with e | ⟨h1, h2, h3, h4⟩
  · exact h.mv (fun k c z => by show (m.closeS n0 held).cells[k]? = _; rw [e]; exact z) (fun _ _ _ z => z) (bagA_sub h)
  · exact h.cut h2 h4 hk
/-- the end of a def's scope -/
theorem close_ok {held : Bool} {m0 : Mm} (st : St B m0.cells.length A m0.openS A' m') (wf : WF m') (b : BagR B A' m' s') (b0 : BagR B A m0 s) (ha : ∀ n ∈ A, n < m0.cells.length) :
    Fr (bagC B) m0 (m'.closeS m0.cells.length held) ∧ WF (m'.closeS m0.cells.length held) ∧ BagR B A (m'.closeS m0.cells.length held) s' := by
  have le : m0.cells.length ≤ m'.cells.length := st.le
  have old : ∀ k, k < m0.cells.length → (m'.closeS m0.cells.length held).cells[k]? = m'.cells[k]? := fun k hk => close_eq wf hk
  exact ⟨⟨close_le wf le, fun k hk hn => (old k hk).trans (st.old k hk hn)⟩, (wf.close).1, (b.close wf fun k hk => ha k (bagA_sub b0 k hk)).anti (fun k hk => st.sup k hk (ha k hk)) (bagA_sub b0)⟩
theorem RdfA.closeF {held : Bool} (wf : WF m) (hs : ∀ k ∈ A2, k ∈ A) : ∀ {x : List (Str × Wd)} {y : List (Str × PyData)}, RdfA m A x y → (held = true → Wd.ltAll n0 (x.map (·.2)) = true) → RdfA (m.closeS n0 held) A2 x y
  | [], [], _, _ => trivial
  | (_, w) :: r, (_, _) :: _, ⟨h1, h2, h3⟩, hl => by
    have sp : held = true → w.lt n0 = true ∧ Wd.ltAll n0 (r.map (·.2)) = true := fun e => by
      have : (w.lt n0 && Wd.ltAll n0 (r.map (·.2))) = true := hl e
      rwa [Bool.and_eq_true] at this
    exact ⟨h1, (RdA.close wf h2 fun e => (sp e).1).mv fun k c hk hn => ⟨hk, fun z => hn (hs k z)⟩, RdfA.closeF wf hs h3 fun e => (sp e).2⟩
  | [], _ :: _, h, _ => h.elim
  | _ :: _, [], h, _ => h.elim
theorem sim_run {n : Nat} {b : Ps} {S : Sm} (h : SimS tl b S) : SimF tl (runP n b) (runF n S) := fun B A m s vs ws w bg ha ht hr => by
  have h0 := sr_start (n := n) w bg ha ht hr
  have r := h B m.cells.length A (startE n ws) m.openS (startP n vs) s h0
  unfold runP runF
  have subA : ∀ {A' : List Nat} {m' : Mm}, St B m.cells.length A m.openS A' m' → ∀ k ∈ A, k ∈ A' := fun st k hk => st.sup k hk (ha k hk)
  cases e : b (startP n vs) s with
  | stuck => trivial
  | exc x pe' s' =>
    rw [e] at r
    obtain ⟨x', env', m', A', e1, st, sr, xr⟩ := r
    rw [e1]
    obtain ⟨f, wf, b'⟩ := close_ok (held := Wd.ltAll m.cells.length (x'.fs.map (·.2))) st sr.wf sr.bag bg ha
    exact ⟨x', _, rfl, f, wf, b', xr.1, xr.2.closeF sr.wf (subA st) fun e => e⟩
  | go fl pe' s' =>
    rw [e] at r
    obtain ⟨fl', env', m', A', e1, st, r⟩ := r
    rw [e1]
    cases fl with
    | bk => trivial
    | ct => trivial
    | nx => cases fl' with
      | nx =>
        obtain ⟨f, wf, b'⟩ := close_ok (held := true) st r.wf r.bag bg ha
        exact ⟨.d .none, _, rfl, f, wf, bagS_0 b', .d rfl⟩
      | _ => exact r.elim
    | rt v => cases fl' with
      | rt w =>
        obtain ⟨wf, b', rv⟩ := r
        obtain ⟨f, wf2, b2⟩ := close_ok (held := w.lt m.cells.length) st wf b'.1 bg ha
        cases v with
        | d x => exact ⟨w, _, rfl, f, wf2, bagS_0 b2, (RdA.close wf (show RdA m' A' w x from rv) fun e => e).mv fun k c hk hn => ⟨hk, fun z => hn (subA st k z)⟩⟩
        | bo i c => have := rv.1; simp at this
        | bag => exact ⟨w, _, rfl, f, wf2, bagS_0 b2, rv⟩
        | ob k => exact ⟨w, _, rfl, f, wf2, bagS_0 b2, rv⟩
        | fr c =>
          refine ⟨w, _, rfl, f, wf2, ⟨b2, ?_⟩, ?_⟩
          · exact (b'.2.close wf fun k hk => ha k (bagA_sub bg k hk)).anti (fun k hk => by
              rcases List.mem_append.mp hk with z | z
              · exact List.mem_append_left _ z
              · exact List.mem_append_right _ (subA st k z)) fun k hk => List.mem_append_right _ (bagA_sub bg k hk)
          obtain ⟨k, cl, ew, g1, g2, g3, g4⟩ := rv
          subst ew
          have hl : (Wd.ref k).lt m.cells.length = false := by
            show decide (k < m.cells.length) = false
            simp; omega
          have ec : (m'.closeS m.cells.length ((Wd.ref k).lt m.cells.length)).cells = m'.cells := by
            rcases (wf.close (n0 := m.cells.length) (held := (Wd.ref k).lt m.cells.length)).2 with e | ⟨e, _⟩
            · exact e
            · rw [hl] at e; cases e
          have mv : ∀ q c, Has m' q c → q ∉ k :: A' → Has (m'.closeS m.cells.length ((Wd.ref k).lt m.cells.length)) q c ∧ q ∉ k :: A := fun q c hk hn => ⟨by show (m'.closeS m.cells.length _).cells[q]? = _; rw [ec]; exact hk, fun z => hn (by
            rcases List.mem_cons.mp z with e | z
            · rw [e]; exact List.mem_cons_self
            · exact List.mem_cons_of_mem _ (subA st q z))⟩
          exact ⟨k, cl, rfl, g1, fun z => g2 (subA st k z), by show (m'.closeS m.cells.length _).cells[k]? = _; rw [ec]; exact g3, g4.mv mv⟩
      | _ => exact r.elim
end
def frzA : List PV → Option (List PV)
  | [] => some []
  | v :: vs => match v with
    | .d x => (frzA vs).map fun r => .d x :: r
    | .fr c => (frzA vs).map fun r => .d c.toD :: r
    | .bag => (frzA vs).map fun r => .bag :: r
    | .ob k => (frzA vs).map fun r => .ob k :: r
    | .bo _ _ => none
def pCall (n : Nat) (P : PFn) (g : Pe (List PV)) : Pe PV := fun e s => (g e s).bind fun vs s => match frzA vs with
  | some us => if us.length = n then P us s else .stuck
  | none => .stuck
section
variable {tl : List (Str × Str)} {B : Lo} {n0 b0 b1 : Nat} {A A' A2 : List Nat} {env env0 : DL.Env} {m m' m1 m2 : Mm} {pe pe0 : PEnv} {s s' : Bg}
theorem frzA_ok (hB : ∀ k ∈ bagC B, k ∈ A) : ∀ {vs us : List PV} {ws : List Wd} {b0 : Nat}, VRs pe env B A b0 m vs ws → frzA vs = some us → ARs B A m us ws
  | [], us, [], b0, _, e => by cases e; trivial
  | v :: vs, us, w :: ws, b0, r, e => by
    obtain ⟨r1, r2⟩ := r.cons_inv hB
    cases v with
    | d x =>
      obtain ⟨r', e1, e2⟩ := Option.map_eq_some_iff.mp (show (frzA vs).map (fun r => PV.d x :: r) = some us from e)
      subst e2
      exact ⟨r1, frzA_ok hB r2 e1⟩
    | fr c =>
      obtain ⟨r', e1, e2⟩ := Option.map_eq_some_iff.mp (show (frzA vs).map (fun r => PV.d c.toD :: r) = some us from e)
      subst e2
      exact ⟨frz_ok r1 rfl, frzA_ok hB r2 e1⟩
    | bag =>
      obtain ⟨r', e1, e2⟩ := Option.map_eq_some_iff.mp (show (frzA vs).map (fun r => PV.bag :: r) = some us from e)
      subst e2
      exact ⟨r1, frzA_ok hB r2 e1⟩
    | ob k =>
      obtain ⟨r', e1, e2⟩ := Option.map_eq_some_iff.mp (show (frzA vs).map (fun r => PV.ob k :: r) = some us from e)
      subst e2
      exact ⟨r1, frzA_ok hB r2 e1⟩
    | bo _ _ => cases e
  | [], us, _ :: _, b0, r, e => r.elim
  | _ :: _, us, [], b0, r, e => r.elim
theorem VR.ofNil {v : PV} {w : Wd} (h : VR [] [] B A b0 m v w) : VR pe env B A b0 m v w := by
  cases v with
  | bo i c => have := h.1; simp at this
  | _ => exact h
theorem sim_call {n : Nat} {P : PFn} {N : Fn} {g : Pe (List PV)} {f : Em (List Wd)} (hF : SimF tl P N) (hg : SimA tl g f) : SimE tl (pCall n P g) (eCall n N f) := fun B n0 A env m pe s h =>
  (hg B n0 A env m pe s h).bind baseV fun vs ws m1 s1 f1 w1 b1 r1 => by
    have h1 := h.step f1 w1 b1
    cases e : frzA vs with
    | none => simp only [e]; trivial
    | some us =>
      simp only [e]
      have ar := frzA_ok h.bag.sub r1 e
      by_cases hl : us.length = n
      · rw [if_pos hl, if_pos (by rw [← ar.length]; exact hl)]
        exact (hF B A m1 s1 us ws w1 b1 h1.alt h1.tab ar).mono fun m' v w _ _ r => r.ofNil
      · rw [if_neg hl]; trivial
end
def pexOf (x : Str) (fs : List (Str × Nat)) (ds : List PyData) : PEx := ⟨x, fs.reverse.map fun p => (p.1, (ds[p.2]?).getD .none)⟩
def pRaise (x : Str) (n : Nat) (fs : List (Str × Nat)) (g : Pe (List PV)) : Ps := fun e s => prs (g e s) e fun vs s => match frzs vs with
  | some ds => if ds.length = n then .exc (pexOf x fs ds) e s else .stuck
  | none => .stuck
structure PHd where
  cls : Str
  slot : Option Nat
  run : PEx → Ps
def unsetP (o : Option Nat) (e : PEnv) : PEnv := match o with
  | none => e
  | some i => e.set i .no
def offP (o : Option Nat) : PS → PS
  | .go f e s => .go f (unsetP o e) s
  | _ => .stuck
def catchP (sub : Str → Str → Option Bool) : List PHd → PEx → Ps
  | [], x => fun e s => .exc x e s
  | h :: r, x => fun e s => match sub x.cls h.cls with
    | some true => offP h.slot (h.run x (unsetP h.slot e) s)
    | some false => catchP sub r x e s
    | none => .stuck
def pTry (sub : Str → Str → Option Bool) (b : Ps) (hs : List PHd) : Ps := fun e s => match b e s with
  | .exc x e1 s1 => catchP sub hs x e1 s1
  | r => r
def SimX (tl : List (Str × Str)) (g : PEx → Ps) (f : Ex → Sm) : Prop := ∀ (B : Lo) (n0 : Nat) (A : List Nat) (env : DL.Env) (m : Mm) (pe : PEnv) (s : Bg) (x : PEx) (x' : Ex), SR tl B n0 A env m pe s → XR m A x x' → RelS tl B n0 A m (g x pe s) (f x' env m)
inductive SimH (tl : List (Str × Str)) : List PHd → List Hd → Prop
  | nil : SimH tl [] []
  | cons {c : Str} {o : Option Nat} {g : PEx → Ps} {f : Ex → Sm} {gs : List PHd} {fs : List Hd} : SimX tl g f → SimH tl gs fs → SimH tl (⟨c, o, g⟩ :: gs) (⟨c, o, f⟩ :: fs)
def pLam (T : PR PV → PR PV) (b : Pe PV) : Pe PV := fun e s => T (b e s)
section
variable {tl : List (Str × Str)} {B : Lo} {n0 b0 b1 : Nat} {A A' A2 : List Nat} {env env0 : DL.Env} {m m' m1 m2 : Mm} {pe pe0 : PEnv} {s s' : Bg} {sub : Str → Str → Option Bool}
theorem rdf_of {ds : List PyData} {ws : List Wd} (h : RdsA m A ws ds) : ∀ (fs : List (Str × Nat)), RdfA m A (fs.map fun p => (p.1, (ws[p.2]?).getD (.d .none))) (fs.map fun p => (p.1, (ds[p.2]?).getD .none))
  | [] => trivial
  | (f, i) :: r => by
    refine ⟨rfl, ?_, rdf_of h r⟩
    cases e : ds[i]? with
    | some x =>
      obtain ⟨w, e1, r1⟩ := h.get e
      rw [e1]
      exact r1
    | none =>
      have e1 : ws[i]? = none := by
        rw [List.getElem?_eq_none_iff] at e ⊢
        rw [h.length]; exact e
      rw [e1]
      exact .d rfl
theorem sim_raise {x : Str} {n : Nat} {fs : List (Str × Nat)} {g : Pe (List PV)} {f : Em (List Wd)} (hg : SimA tl g f) : SimS tl (pRaise x n fs g) (sRaise x n fs f) := fun B n0 A env m pe s h =>
  relS_rs h (hg B n0 A env m pe s h) fun vs ws m1 s1 f1 w1 b1 r1 => by
    have h1 := h.step f1 w1 b1
    cases e : frzs vs with
    | none => simp only [e]; trivial
    | some ds =>
      simp only [e]
      have rd := frzs_ok h.bag.sub r1 e
      by_cases hl : ds.length = n
      · rw [if_pos hl, if_pos (by rw [rd.length]; exact hl)]
        exact ⟨_, env, m1, A, rfl, .refl, h1, rfl, rdf_of rd fs.reverse⟩
      · rw [if_neg hl]; trivial
theorem SR.unsetO (h : SR tl B n0 A env m pe s) (o : Option Nat) : SR tl B n0 A (unsetE o env) m (unsetP o pe) s := by
  cases o with
  | none => exact h
  | some i => exact h.unset
theorem RelS.off {g : PS} {f : Sr} (o : Option Nat) (h : RelS tl B n0 A m g f) : RelS tl B n0 A m (offP o g) (offS o f) := by
  cases g with
  | stuck => trivial
  | exc x pe' s' => trivial
  | go fl pe' s' =>
    obtain ⟨fl', env', m', A', e, st, r⟩ := h
    subst e
    refine ⟨fl', _, m', A', rfl, st, ?_⟩
    cases fl <;> cases fl' <;> first | exact SR.unsetO r o | exact r.elim | exact r
theorem sim_catch {gs : List PHd} {fs : List Hd} (h : SimH tl gs fs) {x : PEx} {x' : Ex} (hs : SR tl B n0 A env m pe s) (xr : XR m A x x') : RelS tl B n0 A m (catchP sub gs x pe s) (catchL sub fs x' env m) := by
  induction h with
  | nil => exact ⟨x', env, m, A, rfl, .refl, hs, xr⟩
  | @cons c o g f gs fs h1 h2 ih =>
    show RelS tl B n0 A m (match sub x.cls c with
      | some true => offP o (g x (unsetP o pe) s)
      | some false => catchP sub gs x pe s
      | none => .stuck) (match sub x'.cls c with
      | some true => offS o (f x' (unsetE o env) m)
      | some false => catchL sub fs x' env m
      | none => .stuck)
    rw [xr.1]
    cases sub x.cls c with
    | none => trivial
    | some b =>
      cases b with
      | true => exact (h1 B n0 A _ m _ s x x' (hs.unsetO o) xr).off o
      | false => exact ih
theorem sim_try {b : Ps} {S : Sm} {gs : List PHd} {fs : List Hd} (hb : SimS tl b S) (h : SimH tl gs fs) : SimS tl (pTry sub b gs) (sTry sub S fs) := fun B n0 A env m pe s hs => by
  have r := hb B n0 A env m pe s hs
  unfold pTry sTry
  cases e : b pe s with
  | stuck => trivial
  | exc x pe' s' =>
    rw [e] at r
    obtain ⟨x', env', m', A', e1, st, sr, xr⟩ := r
    rw [e1]
    exact (sim_catch h sr xr).pre st
  | go fl pe' s' =>
    rw [e] at r
    obtain ⟨fl', env', m', A', e1, r⟩ := r
    rw [e1]
    exact ⟨fl', env', m', A', rfl, r⟩
theorem RdfA.look : ∀ {x : List (Str × Wd)} {y : List (Str × PyData)} {n : Str} {d : PyData}, RdfA m A x y → y.lookup n = some d → ∃ w, x.lookup n = some w ∧ RdA m A w d
  | [], [], n, d, _, e => by cases e
  | (f, w) :: r, (g, z) :: r', n, d, ⟨h1, h2, h3⟩, e => by
    subst h1
    by_cases hn : n = f
    · subst hn
      simp [List.lookup] at e ⊢
      subst e
      exact h2
    · have hb : (n == f) = false := by simpa using hn
      simp only [List.lookup, hb] at e ⊢
      exact RdfA.look h3 e
  | [], _ :: _, _, _, h, _ => h.elim
  | _ :: _, [], _, _, h, _ => h.elim
end
end PD
set_option Elab.async false
set_option linter.all false
set_option maxRecDepth 100000
set_option maxHeartbeats 2000000
namespace PD
open PySem PySem.Spec PyProof.Rows L2 DL
def Bg.get (s : Bg) : Nat → Option Int
  | 0 => some s.a
  | 1 => some s.b
  | 2 => some s.c
  | _ => none
def Bg.put (s : Bg) : Nat → Int → Option Bg
  | 0, x => some { s with a := x }
  | 1, x => some { s with b := x }
  | 2, x => some { s with c := x }
  | _, _ => none
/-- bag[k] -/
def pBagIx (j k : Nat) : Pe PV := fun e s => match e[j]?, s.get k with
  | some .bag, some x => .ok (.d (.int x)) s
  | _, _ => .stuck
/-- bag[3][e:] -/
def pBagCut (j : Nat) (g : Pe PV) : Pe PV := fun e s => match e[j]? with
  | some .bag => (g e s).bind fun v s => match v with
    | .d (.int i) => .ok (.fr (.l (cutL (s.xs.map .int) (some i) none))) s
    | _ => .stuck
  | _ => .stuck
/-- bag[k] = e -/
def pBagSet (j k : Nat) (g : Pe PV) : Ps := fun e s => match e[j]? with
  | some .bag => prs (g e s) e fun v s => match v with
    | .d (.int x) => if 0 ≤ x then (match s.put k x with
      | some s => .go .nx e s
      | none => .stuck) else .stuck
    | _ => .stuck
  | _ => .stuck
/-- bag[k] += e -/
def pBagAug (j k : Nat) (g : Pe PV) : Ps := fun e s => match e[j]?, s.get k with
  | some .bag, some y => prs (g e s) e fun v s => match v, s.get k with
    | .d (.int x), some z => if 0 ≤ y + x ∧ z = y then (match s.put k (y + x) with
      | some s => .go .nx e s
      | none => .stuck) else .stuck
    | _, _ => .stuck
  | _, _ => .stuck
def bagL (s : Bg) (r : Nat) : List Wd := [.d (.int s.a), .d (.int s.b), .d (.int s.c), .ref r]
section
variable {tl : List (Str × Str)} {B : Lo} {n0 b0 b1 : Nat} {A A' A2 : List Nat} {env env0 : DL.Env} {m m' m1 m2 : Mm} {pe pe0 : PEnv} {s s' : Bg} {g : Pe PV} {f : Em Wd}
theorem bag_at (h : SR tl B n0 A env m pe s) {j : Nat} (e : pe[j]? = some .bag) : ∃ i r, B.bag = some (i, r) ∧ env[j]? = some (some (.ref i)) ∧ i ≠ r ∧ i ∈ A ∧ Has m i (.lst (bagL s r)) ∧ Has m r (.lst (s.xs.map fun x => .d (.int x))) ∧ GoodB s := by
  obtain ⟨i, r, e1, e2⟩ := h.bagv j e
  have hb := h.bag.1
  rw [e1] at hb
  exact ⟨i, r, e1, e2, hb.1, hb.2.1, hb.2.2.2.1, hb.2.2.2.2.1, hb.2.2.2.2.2⟩
theorem get_at {k : Nat} {x : Int} {r : Nat} (e : s.get k = some x) : atI (bagL s r) (k : Int) = some (.d (.int x)) ∧ (bagL s r)[k]? = some (.d (.int x)) := by
  unfold Bg.get at e
  split at e
  · cases e; exact ⟨rfl, rfl⟩
  · cases e; exact ⟨rfl, rfl⟩
  · cases e; exact ⟨rfl, rfl⟩
  · cases e
theorem put_at {k : Nat} {x : Int} {r : Nat} {s' : Bg} (e : s.put k x = some s') : (bagL s r).set k (.d (.int x)) = bagL s' r ∧ s'.xs = s.xs ∧ ixN 4 (k : Int) = some k ∧ (0 ≤ x → GoodB s → GoodB s') ∧ s'.obs = s.obs := by
  unfold Bg.put at e
  split at e
  · cases e; exact ⟨rfl, rfl, rfl, fun hx hg => ⟨hx, hg.2.1, hg.2.2.1, hg.2.2.2⟩, rfl⟩
  · cases e; exact ⟨rfl, rfl, rfl, fun hx hg => ⟨hg.1, hx, hg.2.2.1, hg.2.2.2⟩, rfl⟩
  · cases e; exact ⟨rfl, rfl, rfl, fun hx hg => ⟨hg.1, hg.2.1, hx, hg.2.2.2⟩, rfl⟩
  · cases e
theorem sim_bagIx {j k : Nat} {z : Int} (hz : z = (k : Int)) : SimE tl (pBagIx j k) (e2 ixO (eV j) (eC (.d (.int z)))) := fun B n0 A env m pe s h => by
  subst hz
  unfold pBagIx
  split
  · rename_i x e ex
    obtain ⟨i, r, _, e1, _, _, hh, _⟩ := bag_at h e
    have e2 : e2 ixO (eV j) (eC (.d (.int (k : Int)))) env m = .ok (.d (.int x)) m := by
      unfold e2 eV eC
      rw [e1]
      simp only [Rs.bind_ok]
      unfold ixO
      simp only [s_ref hh, (get_at (r := r) ex).1]
      rfl
    rw [e2]
    exact relE_of h (.inl rfl) (.d rfl)
  · trivial
theorem sim_bagCut {j : Nat} (hg : SimE tl g f) : SimE tl (pBagCut j g) (eSl (e2 ixO (eV j) (eC (.d (.int 3)))) (oSome f) oNone) := fun B n0 A env m pe s h => by
  unfold pBagCut
  split
  · rename_i e
    obtain ⟨i, r, _, e1, _, _, hh, hr, _⟩ := bag_at h e
    have e2' : e2 ixO (eV j) (eC (.d (.int 3))) env m = .ok (.ref r) m := by
      unfold e2 eV eC
      rw [e1]
      simp only [Rs.bind_ok]
      unfold ixO
      simp only [s_ref hh]
      all_goals rfl
    have e3 : eSl (e2 ixO (eV j) (eC (.d (.int 3)))) (oSome f) oNone env m = (f env m).bind fun w m => (match w with
      | .d (.int i) => Rs.ok (some i) m
      | _ => .stuck).bind fun l m => Rs.of (slO (.ref r) l none m) := by
      unfold eSl oSome oNone
      rw [e2']
      simp only [Rs.bind_ok]
      cases f env m with
      | ok w m =>
        first
          | (simp only [Rs.bind_ok]; done)
          | (simp only [Rs.bind_ok]
             cases w with
             | d x => cases x <;> rfl
             | _ => rfl)
      | exc _ _ => rfl
      | stuck => rfl
    rw [e3]
    refine (hg B n0 A env m pe s h).bind baseV fun v w m1 s1 f1 w1 b1 r1 => ?_
    have h1 := h.step f1 w1 b1
    split
    · rename_i z
      rw [RdA.flat r1 rfl]
      obtain ⟨i', r', eB, e1', _, _, hh', hr', _⟩ := bag_at h1 e
      rw [e1] at e1'
      cases e1'
      have er : r' = r := by
        obtain ⟨i2, r2, eB2, e4⟩ := h.bagv j e
        rw [e1] at e4
        cases e4
        have hb := h.bag.1
        rw [eB2] at hb
        have q0 := hb.2.2.2.1.inj hh
        rw [eB] at eB2
        cases eB2
        injection q0 with e4
        injection e4 with _ e4
        injection e4 with _ e4
        injection e4 with _ e4
        injection e4 with e4 _
        injection e4
      subst er
      simp only [Rs.bind_ok]
      have rr : RdC m1 A (.lst (cutW (s1.xs.map fun x => .d (.int x)) (some z) none)) (.l (cutL (s1.xs.map .int) (some z) none)) := (rds_ints (m := m1) (A := A) s1.xs).cutL _ _
      have e5 : slO (.ref r') (some z) none m1 = some (.ref m1.cells.length, m1.push (.lst (cutW (s1.xs.map fun x => .d (.int x)) (some z) none))) := by
        show (match m1.cells[r']? with
          | some (.lst xs) => some (Wd.ref m1.cells.length, m1.push (.lst (cutW xs (some z) none)))
          | _ => none) = _
        rw [show m1.cells[r']? = some (.lst (s1.xs.map fun x => .d (.int x))) from hr']
      rw [e5]
      exact relE_of h1 (nx_new rr) (fr_new h1 rr (Nat.le_refl _))
    · trivial
  · trivial
/-- the bag's cell written -/
theorem bag_put (h : SR tl B n0 A env m pe s) {i r k : Nat} {x : Int} {s' : Bg} (eB : B.bag = some (i, r)) (hx : 0 ≤ x) (e : s.put k x = some s') : SR tl B n0 A env (m.put i (.lst (bagL s' r)) true) pe s' ∧ St B n0 A m A (m.put i (.lst (bagL s' r)) true) := by
  have hb := h.bag.1
  rw [eB] at hb
  obtain ⟨b1, b2, b3, b4, b5, b6⟩ := hb
  obtain ⟨p1, p2, p3, p4, p5⟩ := put_at (r := r) e
  have iB : i ∈ bagC B := List.mem_append_left _ (by rw [eB]; exact List.mem_cons_self)
  have iO : i ∉ B.obA := fun z => by
    have nd := h.bag.2.nd
    unfold bagA at nd
    exact (List.nodup_append.mp nd).2.2 i (by rw [eB]; exact List.mem_cons_self) i z rfl
  have eq : ∀ k, k ≠ i → (m.put i (.lst (bagL s' r)) true).cells[k]? = m.cells[k]? := fun k hk => List.getElem?_set_ne (Ne.symm hk)
  have mv : ∀ k c, Has m k c → k ∉ A → Has (m.put i (.lst (bagL s' r)) true) k c ∧ k ∉ A := fun k c hk hn => ⟨hk.put fun z => hn (by rw [← z]; exact b2), hn⟩
  have rlt : r < m.cells.length := h.alt r b3
  refine ⟨⟨h.wf.put b4 ?_ ?_, by rw [put_len]; exact h.le, h.len, fun j y e1 => ?_, h.bagv, h.obv, fun j c e1 => ?_, h.dst, ⟨?_, ?_⟩, fun k hk => by rw [put_len]; exact h.alt k hk, fun p hp => ?_⟩,
    by rw [put_len]; exact Nat.le_refl _, fun k hk hn => eq k fun z => hn (by rw [z]; exact iB), fun k hk hn => eq k fun z => hn (by rw [z]; exact b2), fun k hk => .inl hk, fun k hk _ => hk⟩
  · show ((true && (true && (true && (decide (r < m.cells.length) && true)))) : Bool) = true
    simp [rlt]
  · intro _ b hb
    exact hb
  · obtain ⟨w', q1, q2⟩ := h.val j y e1
    exact ⟨w', q1, q2.mv mv⟩
  · obtain ⟨k', cl2, g1, g2, g3, g4, g5, g6⟩ := h.own j c e1
    exact ⟨k', cl2, g1, g2, g3, g4, g5.put fun z => g4 (by rw [← z]; exact bagC_A iB), g6.mv mv⟩
  · rw [eB]
    refine ⟨b1, b2, b3, has_put b4.lt, ?_, p4 hx b6⟩
    rw [p2]
    exact b5.put fun z => b1 z
  · refine ⟨by rw [p5]; exact h.bag.2.len, fun k l o e1 e2 => ?_, h.bag.2.nd, h.bag.2.sub⟩
    rw [p5] at e2
    exact (h.bag.2.at_ k l o e1 e2).mv (fun n hn c hc => hc.put fun z => iO (by rw [z]; exact ob_all e1 n hn)) mv
  · obtain ⟨k, hk⟩ := h.tab p hp
    refine ⟨k, hk.put fun z => ?_⟩
    subst z
    have := b4.inj hk
    cases this
theorem sim_bagSet {j k : Nat} {z : Int} (hz : z = (k : Int)) (hg : SimE tl g f) : SimS tl (pBagSet j k g) (sSub (eV j) (eC (.d (.int z))) f) := fun B n0 A env m pe s h => by
  subst hz
  unfold pBagSet
  split
  · rename_i e
    refine relS_rs h (hg B n0 A env m pe s h) fun v w m1 s1 f1 w1 b1 r1 => ?_
    have h1 := h.step f1 w1 b1
    obtain ⟨i, r, eB, e1, _, _, hh, _⟩ := bag_at h1 e
    split
    · rename_i x
      rw [RdA.flat r1 rfl]
      by_cases hx : 0 ≤ x
      · rw [if_pos hx]
        cases ep : s1.put k x with
        | none => trivial
        | some s2 =>
          obtain ⟨p1, p2, p3, p4, _⟩ := put_at (r := r) ep
          obtain ⟨q1, q2⟩ := bag_put h1 eB hx ep
          have ev : eV j env m1 = .ok (.ref i) m1 := by unfold eV; rw [e1]
          have es : setO (.ref i) (.d (.int (k : Int))) (.d (.int x)) m1 = some (m1.put i (.lst (bagL s2 r)) true) := by
            unfold setO
            simp only [show m1.cells[i]? = some (.lst (bagL s1 r)) from hh, show (bagL s1 r).length = 4 from rfl, p3, p1]
            rfl
          rw [ev]
          show RelS tl B n0 A m1 _ (match setO (.ref i) (.d (.int (k : Int))) (.d (.int x)) m1 with
            | some m => Sr.go .nx env m
            | none => .stuck)
          rw [es]
          exact ⟨.nx, env, _, A, rfl, q2, q1⟩
      · rw [if_neg hx]; trivial
    · trivial
  · trivial
theorem sim_bagAug {j k : Nat} {z : Int} (hz : z = (k : Int)) (hg : SimE tl g f) : SimS tl (pBagAug j k g) (sAugL iaddO (eV j) (eC (.d (.int z))) f) := fun B n0 A env m pe s h => by
  subst hz
  unfold pBagAug
  split
  · rename_i y e ey
    obtain ⟨i, r, eB, e1, _, _, hh, _⟩ := bag_at h e
    have ev : eV j env m = .ok (.ref i) m := by unfold eV; rw [e1]
    have ex : ixLO (.ref i) (.d (.int (k : Int))) m = some (.d (.int y)) := by
      unfold ixLO
      simp only [show m.cells[i]? = some (.lst (bagL s r)) from hh]
      rw [if_pos (by omega)]
      exact (get_at (r := r) ey).2
    simp only [sAugL, ev, rs_ok, eC, ex]
    refine relS_rs h (hg B n0 A env m pe s h) fun v w m1 s1 f1 w1 b1 r1 => ?_
    have h1 := h.step f1 w1 b1
    obtain ⟨i', r', eB', e1', _, _, hh', _⟩ := bag_at h1 e
    rw [e1] at e1'
    cases e1'
    split
    · rename_i x z ez
      rw [RdA.flat r1 rfl]
      by_cases hx : 0 ≤ y + x ∧ z = y
      · rw [if_pos hx]
        cases ep : s1.put k (y + x) with
        | none => trivial
        | some s2 =>
          obtain ⟨p1, p2, p3, p4, _⟩ := put_at (r := r') ep
          obtain ⟨q1, q2⟩ := bag_put h1 eB' hx.1 ep
          have es : setO (.ref i) (.d (.int (k : Int))) (.d (.int (y + x))) m1 = some (m1.put i (.lst (bagL s2 r')) true) := by
            unfold setO
            simp only [show m1.cells[i]? = some (.lst (bagL s1 r')) from hh', show (bagL s1 r').length = 4 from rfl, p3, p1]
            rfl
          show RelS tl B n0 A m1 _ (match setO (.ref i) (.d (.int (k : Int))) (.d (.int (y + x))) m1 with
            | some m => Sr.go .nx env m
            | none => .stuck)
          rw [es]
          exact ⟨.nx, env, _, A, rfl, q2, q1⟩
      · rw [if_neg hx]; trivial
    · trivial
  · trivial
end
end PD
set_option Elab.async false
set_option linter.all false
set_option maxRecDepth 100000
set_option maxHeartbeats 2000000
namespace PD
open PySem PySem.Spec PyProof.Rows L2 DL Hn
theorem lc_abs (w : Wd) {gd : Gd} {m : Mm} (hg : gdOk gd m = true) : ∀ (ks acc : List Int), acc.length + ks.length ≤ 63 →
    lcL (.name 1) (fun _ m => .ok true m) (eN absO (aC (eV 1) aN)) gd [some w, none] (ks.map fun i => .d (.int i)) (acc.map fun i => .d (.int i)) m = .ok ((acc ++ ks.map fun i => if i < 0 then -i else i).map fun i => .d (.int i)) m
  | [], acc, hl => by
    simp only [List.map_nil, List.append_nil]
    unfold lcL
    rw [if_pos hg]
  | k :: ks, acc, hl => by
    rw [List.map_cons]
    unfold lcL
    rw [if_pos hg]
    simp only [List.length_cons] at hl
    have ih := lc_abs w hg ks (acc ++ [if k < 0 then -k else k]) (by simp; omega)
    simp only [Tg.put, List.set, Rs.bind_ok, if_true]
    have e : eN absO (aC (eV 1) aN) [some w, some (.d (.int k))] m = .ok (.d (.int (if k < 0 then -k else k))) m := rfl
    rw [e]
    simp only [Rs.bind_ok]
    rw [if_pos (by rw [List.length_map]; show acc.length < 16777216; omega)]
    rw [List.map_append] at ih
    simp only [List.map_cons, List.map_nil, List.append_assoc, List.cons_append, List.nil_append] at ih ⊢
    exact ih
def bagMem (m : Mm) (c ks : List Int) : Mm := ((m.push (.lst (c.map fun i => .d (.int i)))).push (.lst (ks.map fun i => .d (.int i)))).push (.lst [.d (.int 0), .d (.int 1234567891), .d (.int 0), .ref (m.cells.length + 1)])
theorem bag_run {w : Wd} {m : Mm} {c : List Int} (hs : slO w none (some 63) m.openS = some (.ref m.cells.length, m.openS.push (.lst (c.map fun i => .d (.int i))))) (hc : c.length ≤ 63) :
    N__law_bag [w] m = .ok (.ref (m.cells.length + 2)) (bagMem m c (c.map fun i => if i < 0 then -i else i)) := by
  unfold N__law_bag runF b__law_bag
  have e0 : startE 2 [w] = [some w, none] := rfl
  rw [e0]
  have e1 : eSl (eV 0) oNone (oSome (eC (.d (.int 63)))) [some w, none] m.openS = .ok (.ref m.cells.length) (m.openS.push (.lst (c.map fun i => .d (.int i)))) := by
    show Rs.of (slO w none (some 63) m.openS) = _
    rw [hs]; rfl
  have h1 : Has (m.openS.push (.lst (c.map fun i => .d (.int i)))) m.cells.length (.lst (c.map fun i => .d (.int i))) := has_push (m := m.openS)
  have e2 : iVal (eSl (eV 0) oNone (oSome (eC (.d (.int 63))))) [some w, none] m.openS = .ok (c.map fun i => .d (.int i), [(m.cells.length, .lst (c.map fun i => .d (.int i)))]) (m.openS.push (.lst (c.map fun i => .d (.int i)))) := by
    unfold iVal
    rw [e1]
    simp only [Rs.bind_ok, show (m.openS.push (.lst (c.map fun i => .d (.int i)))).cells[m.cells.length]? = some (.lst (c.map fun i => .d (.int i))) from h1]
  have e3 : eLc (iVal (eSl (eV 0) oNone (oSome (eC (.d (.int 63)))))) (.name 1) (fun _ m => .ok true m) (eN absO (aC (eV 1) aN)) [1] [some w, none] m.openS =
      .ok (.ref (m.cells.length + 1)) ((m.openS.push (.lst (c.map fun i => .d (.int i)))).push (.lst ((c.map fun i => if i < 0 then -i else i).map fun i => .d (.int i)))) := by
    unfold eLc
    rw [e2]
    have k := lc_abs w (gdOk_one (show (m.openS.push (.lst (c.map fun i => .d (.int i)))).cells[m.cells.length]? = some (.lst (c.map fun i => .d (.int i))) from h1)) c [] (by simpa using hc)
    simp only [List.map_nil, List.nil_append] at k
    simp only [Rs.bind_ok]
    have ef : forget [1] [some w, (none : Option Wd)] = [some w, none] := rfl
    rw [ef, k]
    simp only [push_len]
    rfl
  simp only [sRet, eN, aC, aN, eC, e3, Rs.bind_ok, rs_ok]
  have e4 : lstO [Wd.d (.int 0), .d (.int 1234567891), .d (.int 0), .ref (m.cells.length + 1)] ((m.openS.push (.lst (c.map fun i => .d (.int i)))).push (.lst ((c.map fun i => if i < 0 then -i else i).map fun i => .d (.int i)))) =
      some (.ref (m.cells.length + 2), ((m.openS.push (.lst (c.map fun i => .d (.int i)))).push (.lst ((c.map fun i => if i < 0 then -i else i).map fun i => .d (.int i)))).push (.lst [Wd.d (.int 0), .d (.int 1234567891), .d (.int 0), .ref (m.cells.length + 1)])) := by
    unfold lstO
    rw [if_pos (show ([Wd.d (.int 0), Wd.d (.int 1234567891), Wd.d (.int 0), Wd.ref (m.cells.length + 1)] : List Wd).length ≤ LIM from (by decide : 4 ≤ 16777216))]
    simp only [push_len]
    rfl
  rw [e4]
  simp only [Rs.of, rs_ok]
  have hl : (Wd.ref (m.cells.length + 2)).lt m.cells.length = false := by
    show decide (m.cells.length + 2 < m.cells.length) = false
    simp
  rw [hl]
  show Rs.ok _ (Mm.closeS ⟨_, (m.cells.length, []) :: m.stk⟩ _ false) = _
  unfold Mm.closeS
  simp only [Bool.and_false, Bool.false_and, Bool.false_eq_true, if_false]
  rfl
theorem int_cell_lt (k : Nat) (l : List Int) : (Cell.lst (l.map fun i => .d (.int i))).lt k = true := by
  show Wd.ltAll k _ = true
  rw [ltAll_iff]
  intro w hw
  obtain ⟨i, _, e⟩ := List.mem_map.mp hw
  subst e; rfl
theorem begin_wf {tl : List (Str × Str)} {ns : List Int} {w : Wd} {m : Mm} (h : Begin tl ns w m) : WF m ∧ Tabs tl m ∧ m.stk = [] := by
  have tabs : ∀ (l : List Cell), ∀ p ∈ tl, ∃ k, Has ⟨tabCs tl ++ l, []⟩ k (.tab p.1 p.2) := fun l p hp => by
    obtain ⟨k, hk, e⟩ := List.getElem_of_mem hp
    refine ⟨k, ?_⟩
    show (tabCs tl ++ l)[k]? = _
    rw [List.getElem?_append_left (by simpa [tabCs] using hk)]
    unfold tabCs
    rw [List.getElem?_map, List.getElem?_eq_getElem hk, e]
    rfl
  have cl : ∀ (k : Nat) (c : Cell), (tabCs tl)[k]? = some c → ∀ b, c.lt b = true := fun k c h b => by
    unfold tabCs at h
    rw [List.getElem?_map] at h
    obtain ⟨p, _, e⟩ := Option.map_eq_some_iff.mp h
    subst e; rfl
  cases h with
  | rol =>
    refine ⟨⟨fun k c h => cl k c h _, (fun _ h => nomatch h), .nil, (fun _ h => nomatch h)⟩, ?_, rfl⟩
    intro p hp
    have := tabs [] p hp
    simpa using this
  | lst =>
    refine ⟨⟨fun k c h => ?_, (fun _ h => nomatch h), .nil, (fun _ h => nomatch h)⟩, tabs _, rfl⟩
    have h' : (tabCs tl ++ [.lst (ns.map fun i => .d (.int i))])[k]? = some c := h
    by_cases hk : k < (tabCs tl).length
    · rw [List.getElem?_append_left hk] at h'
      exact cl k c h' _
    · rw [List.getElem?_append_right (by omega)] at h'
      have : c = .lst (ns.map fun i => .d (.int i)) := by
        cases e : k - (tabCs tl).length with
        | zero => rw [e] at h'; simpa using h'.symm
        | succ q => rw [e] at h'; simp at h'
      rw [this]
      exact int_cell_lt _ _
theorem begin_cut {tl : List (Str × Str)} {ns : List Int} {w : Wd} {m : Mm} (h : Begin tl ns w m) : ∃ c : List Int, c.length ≤ 63 ∧ slO w none (some 63) m.openS.openS = some (.ref m.cells.length, m.openS.openS.push (.lst (c.map fun i => .d (.int i)))) := by
  have hc : ∃ c : List Int, cutW (ns.map fun i => Wd.d (.int i)) none (some 63) = c.map (fun i => Wd.d (.int i)) ∧ c.length ≤ 63 := by
    unfold cutW
    rw [← List.map_drop, ← List.map_take]
    refine ⟨_, rfl, ?_⟩
    rw [List.length_take]
    have : HT.sIx (ns.map fun i => Wd.d (.int i)).length (ns.map fun i => Wd.d (.int i)).length (some 63) ≤ 63 := by
      unfold HT.sIx
      simp
      omega
    omega
  obtain ⟨c, e, hl⟩ := hc
  refine ⟨c, hl, ?_⟩
  cases h with
  | rol =>
    show some (Wd.ref _, Mm.push _ (.lst (cutW _ none (some 63)))) = _
    rw [e]
    rfl
  | lst =>
    have hh : Has (Mm.openS (Mm.openS ⟨tabCs tl ++ [.lst (ns.map fun i => .d (.int i))], []⟩)) (tabCs tl).length (.lst (ns.map fun i => .d (.int i))) := by
      show (tabCs tl ++ [.lst (ns.map fun i => .d (.int i))])[(tabCs tl).length]? = _
      simp
    show (match (Mm.openS (Mm.openS ⟨tabCs tl ++ [.lst (ns.map fun i => .d (.int i))], []⟩)).cells[(tabCs tl).length]? with
      | some (.lst xs) => some (Wd.ref _, Mm.push _ (.lst (cutW xs none (some 63))))
      | _ => none) = _
    rw [show (Mm.openS (Mm.openS ⟨tabCs tl ++ [.lst (ns.map fun i => .d (.int i))], []⟩)).cells[(tabCs tl).length]? = _ from hh]
    simp only [e]
    rfl
def startLaw (n ib : Nat) : PEnv := (List.replicate n Sl.no).set ib .bag
theorem law_pd {tl : List (Str × Str)} {ns : List Int} {w : Wd} {m0 : Mm} (hb : Begin tl ns w m0) {n ib : Nat} {rest : Sm} {q : Ps} (hq : SimS tl q rest) (h0 : 0 < ib) (hib : ib < n) (hP : ∀ s, Good [] s → ∃ e' s', q (startLaw n ib) s = .go (.rt (.d (.bool true))) e' s') :
    ∃ m', runF n (sSeq (sSet ib (eCall 1 N__law_bag (aC (eV 0) aN))) rest) [w] m0 = .ok (.d (.bool true)) m' := by
  obtain ⟨wf, ht, hstk⟩ := begin_wf hb
  obtain ⟨c, hc, hs⟩ := begin_cut hb
  have run := bag_run (m := m0.openS) hs hc
  have hks : ∀ x ∈ (c.map fun i => if i < 0 then -i else i), (0 : Int) ≤ x := fun x hx => by
    obtain ⟨i, _, e⟩ := List.mem_map.mp hx
    subst e
    split <;> omega
  generalize hk : (c.map fun i => if i < 0 then -i else i) = ks at run hks
  have hkl : ks.length ≤ 63 := by rw [← hk]; simpa using hc
  have e0 : (startE n [w])[0]? = some (some w) := by unfold startE; rfl
  have ev : (sSet ib (eCall 1 N__law_bag (aC (eV 0) aN))) (startE n [w]) m0.openS = .go .nx ((startE n [w]).set ib (some (.ref (m0.cells.length + 2)))) (bagMem m0.openS c ks) := by
    unfold sSet eCall aC aN eV
    rw [e0]
    simp only [Rs.bind_ok]
    rw [if_pos (show [w].length = 1 from rfl), run]
    rfl
  let s : Bg := ⟨0, 1234567891, 0, ks, []⟩
  have hg : GoodB s := ⟨Int.le_refl 0, (by decide : (0 : Int) ≤ 1234567891), Int.le_refl 0, hks, hkl⟩
  have clen : (bagMem m0.openS c ks).cells.length = m0.cells.length + 3 := by
    unfold bagMem
    simp only [push_len]
    rfl
  have wf1 : WF (bagMem m0.openS c ks) := by
    unfold bagMem
    refine ((wf.openS.push (int_cell_lt _ _)).push (int_cell_lt _ _)).push ?_
    simp only [push_len]
    show ((true && (true && (true && (decide (m0.openS.cells.length + 1 < m0.openS.cells.length + 1 + 1) && true)))) : Bool) = true
    simp
  have hi : Has (bagMem m0.openS c ks) (m0.cells.length + 2) (.lst [.d (.int 0), .d (.int 1234567891), .d (.int 0), .ref (m0.cells.length + 1)]) := by
    unfold bagMem
    have := has_push (m := (m0.openS.push (.lst (c.map fun i => .d (.int i)))).push (.lst (ks.map fun i => .d (.int i)))) (c := .lst [.d (.int 0), .d (.int 1234567891), .d (.int 0), .ref (m0.cells.length + 1)])
    simp only [push_len] at this
    exact this
  have hr : Has (bagMem m0.openS c ks) (m0.cells.length + 1) (.lst (ks.map fun i => .d (.int i))) := by
    unfold bagMem
    have := has_push (m := m0.openS.push (.lst (c.map fun i => .d (.int i)))) (c := .lst (ks.map fun i => .d (.int i)))
    simp only [push_len] at this
    exact this.push
  have slots : ∀ (i : Nat) sl, (startLaw n ib)[i]? = some sl → sl = .no ∨ (i = ib ∧ sl = .bag) := fun i sl e => by
    unfold startLaw at e
    rcases set_cases e with ⟨e1, _, e2⟩ | ⟨_, e⟩
    · exact .inr ⟨e1, e2⟩
    · rw [List.getElem?_replicate] at e
      split at e
      · cases e; exact .inl rfl
      · cases e
  have h : SR tl ⟨some (m0.cells.length + 2, m0.cells.length + 1), []⟩ m0.cells.length [m0.cells.length + 2, m0.cells.length + 1] ((startE n [w]).set ib (some (.ref (m0.cells.length + 2)))) (bagMem m0.openS c ks) (startLaw n ib) s := by
    refine ⟨wf1, by rw [clen]; omega, ?_, fun i x e => ?_, fun i e => ?_, fun i k e => ?_, fun i c' e => ?_, fun i j c' c2 k e _ _ _ => ?_, ⟨⟨by omega, List.mem_cons_self, List.mem_cons_of_mem _ List.mem_cons_self, hi, hr, hg⟩, ⟨rfl, fun k l o e _ => by simp at e, by simp [bagA, bag2, Lo.obA], fun k hk => by simp [Lo.obA] at hk⟩⟩, fun k hk => ?_, fun p hp => ?_⟩
    · unfold startE startLaw
      simp
      omega
    · rcases slots i _ e with z | ⟨_, z⟩ <;> cases z
    · rcases slots i _ e with z | ⟨z, _⟩
      · cases z
      · subst z
        refine ⟨_, _, rfl, List.getElem?_set_self ?_⟩
        unfold startE
        simp
        omega
    · rcases slots i _ e with z | ⟨_, z⟩ <;> cases z
    · rcases slots i _ e with z | ⟨_, z⟩ <;> cases z
    · rcases slots i _ e with z | ⟨_, z⟩ <;> cases z
    · rw [clen]
      simp at hk
      omega
    · obtain ⟨k, hk⟩ := ht p hp
      have hk' : Has m0.openS k (.tab p.1 p.2) := hk
      exact ⟨k, ((hk'.push).push).push⟩
  obtain ⟨e', s', eP⟩ := hP s ⟨hg, rfl⟩
  have r := hq _ _ _ _ _ _ _ h
  rw [eP] at r
  obtain ⟨fl', env', m', A', e1, st, r⟩ := r
  cases fl' with
  | rt w' =>
    have rd : RdA m' A' w' (.bool true) := r.2.2
    have ew := rd.flat rfl
    subst ew
    refine ⟨m'.closeS m0.cells.length ((Wd.d (.bool true)).lt m0.cells.length), ?_⟩
    unfold runF sSeq
    rw [ev]
    simp only [Sr.seq, e1]
  | _ => exact r.elim
end PD
set_option Elab.async false
set_option linter.all false
set_option maxRecDepth 100000
set_option maxHeartbeats 2000000
namespace PD
open PySem PySem.Spec PyProof.Rows L2 DL
def enumD : Nat → List PyData → List PyData
  | _, [] => []
  | i, x :: r => .tuple [.int (i : Nat), x] :: enumD (i + 1) r
def enuP : List PV → Option PIt
  | [.d (.tuple xs)] => some ⟨enumD 0 xs, true⟩
  | [.d (.list xs)] => some ⟨enumD 0 xs, true⟩
  | [.fr (.l xs)] => some ⟨enumD 0 xs, true⟩
  | [.bo _ (.l xs)] => some ⟨enumD 0 xs, false⟩
  | _ => none
def piEnu (f : Pe (List PV)) : Pe PIt := fun e s => (f e s).bind fun w s => PR.of (enuP w) s
end PD
namespace PD
open PySem PySem.Spec PyProof.Rows L2 DL
section
variable {tl : List (Str × Str)} {B : Lo} {n0 b0 b1 : Nat} {A : List Nat} {env : DL.Env} {m m' m1 : Mm} {pe : PEnv} {s s' : Bg} {g : Pe PV} {f : Em Wd}
mutual
theorem RdA.nrm : ∀ {w : Wd} {x : PyData}, RdA m A w x → okD x = true → nrm w = .d x
  | _, _, .d h, _ => rfl
  | _, _, .tup (ds := ds) hs, e => by
    show mkTup (nrms _) = _
    rw [RdsA.nrms hs (show okDs ds = true from e), mkTup_map]
  | _, _, .lst _ _ _, e => by cases e
  | _, _, .dct _ _ _, e => by cases e
  | _, _, .ndc _ _ _ _, e => by cases e
  | _, _, .gdc _ _ _, e => by cases e
theorem RdsA.nrms : ∀ {w : List Wd} {x : List PyData}, RdsA m A w x → okDs x = true → nrms w = x.map .d
  | _, _, .nil, _ => rfl
  | _, _, .cons (x := x) (xs := xs) h hs, e => by
    have e' : (okD x && okDs xs) = true := e
    rw [Bool.and_eq_true] at e'
    show nrm _ :: nrms _ = _
    rw [RdA.nrm h e'.1, RdsA.nrms hs e'.2]
    rfl
end
end
end PD
set_option Elab.async false
set_option linter.all false
set_option maxRecDepth 100000
set_option maxHeartbeats 2000000
namespace PD
open PySem PySem.Spec PyProof.Rows L2 DL
def pkN (kvs : List (PyData × PyData)) (k : NestedKey) : Option PyData := (kvs.find? fun p => decide (nkT p.1 = some k)).map (·.2)
def pkG (kvs : List (PyData × PyData)) (k : NestedKey) : Option PyData := (kvs.find? fun p => decide (nkG p.1 = some k)).map (·.2)
def pDnew : Pe PV := fun _ s => .ok (.fr (.k [])) s
end PD
namespace PD
open PySem PySem.Spec PyProof.Rows L2 DL
end PD
namespace PD
open PySem PySem.Spec PyProof.Rows L2 DL
end PD
set_option Elab.async false
set_option linter.all false
set_option maxRecDepth 100000
set_option maxHeartbeats 2000000
namespace PD
open PySem PySem.Spec PyProof.Rows L2 DL
def ppK (kvs : List (PyData × PyData)) (k : Key) (x y : PyData) : List (PyData × PyData) :=
  if (kvs.any fun p => decide (DL.keyOf p.1 = some k)) = true then kvs.map (fun p => if DL.keyOf p.1 = some k then (p.1, y) else p) else kvs ++ [(x, y)]
def ppN (kvs : List (PyData × PyData)) (k : NestedKey) (x y : PyData) : List (PyData × PyData) :=
  if (pkN kvs k).isSome = true then kvs.map (fun p => if nkT p.1 = some k then (p.1, y) else p) else kvs ++ [(x, y)]
def ppG (kvs : List (PyData × PyData)) (k : NestedKey) (x y : PyData) : List (PyData × PyData) :=
  if (pkG kvs k).isSome = true then kvs.map (fun p => if nkG p.1 = some k then (p.1, y) else p) else kvs ++ [(x, y)]
end PD
namespace PD
open PySem PySem.Spec PyProof.Rows L2 DL
def dputP : Co → PyData → PyData → Option Co
  | .k kvs, x, y => (match DL.keyOf x with
    | some k => if kvs.length < LIM then some (.k (ppK kvs k x y)) else none
    | none => if kvs.isEmpty = true then (match nkT x with
      | some _ => some (.n [(x, y)])
      | none => none) else none)
  | .n kvs, x, y => (match nkT x with
    | some k => if kvs.length < LIM then some (.n (ppN kvs k x y)) else none
    | none => none)
  | .g kvs, x, y => (match nkG x with
    | some k => if kvs.length < LIM then some (.g (ppG kvs k x y)) else none
    | none => none)
  | .l _, _, _ => none
def pDput (j : Nat) (gi gv : Pe PV) : Ps := fun e s => match e[j]? with
  | some (.own c0) => prs (gv e s) e fun v s => prs (gi e s) e fun i s => match i, frz v, e[j]? with
    | .d x, some y, some (.own c) => (match dputP c x y with
      | some c' => .go .nx (e.set j (.own c')) s
      | none => .stuck)
    | _, _, _ => .stuck
  | _ => .stuck
end PD
namespace PD
open PySem PySem.Spec PyProof.Rows L2 DL
end PD
set_option Elab.async false
set_option linter.all false
set_option maxRecDepth 100000
set_option maxHeartbeats 2000000
namespace PD
open PySem PySem.Spec PyProof.Rows L2 DL
section
variable {tl : List (Str × Str)} {B : Lo} {n0 b0 b1 : Nat} {A : List Nat} {env : DL.Env} {m m' m1 : Mm} {pe : PEnv} {s s' : Bg} {g : Pe PV} {f : Em Wd}
theorem ns_ok : ∀ {ws : List Wd} {xs : List PyData} {bs : List Int}, RdsA m A ws xs → intsP xs = some bs → nsW ws = some bs
  | _, [], _, .nil, e => by cases e; rfl
  | _, x :: r, bs, .cons h hs, e => by
    cases x with
    | int i =>
      obtain ⟨l, h1, h2⟩ := Option.map_eq_some_iff.mp (show (intsP r).map (i :: ·) = some bs from e)
      subst h2
      rw [RdA.flat h rfl]
      show (nsW _).map (i :: ·) = _
      rw [ns_ok hs h1]; rfl
    | _ => cases e
def lintsP (v : PV) : Option (List Int) := match lstP v with
  | some xs => intsP xs
  | none => none
theorem lints_ok (h : SR tl B n0 A env m pe s) {v : PV} {w : Wd} (r : VR pe env B A b0 m v w) {ns : List Int} (e : lintsP v = some ns) : lnsW w m = some ns := by
  unfold lintsP at e
  split at e
  · rename_i xs hx
    obtain ⟨n, ws, rfl, hh, hr⟩ := lst_ok h r hx
    unfold lnsW
    simp only [show m.cells[n]? = some (.lst ws) from hh]
    exact ns_ok hr e
  · cases e
def pSum1 (vs : List PV) : Option PV := match vs with
  | [v] => (match lintsP v with
    | some ns => some (.d (.int ns.sum))
    | none => none)
  | _ => none
theorem op_sum1 : OpNOk sumO1 pSum1 := fun {tl B n0 A env m pe s vs ws v} h r e => by
  unfold pSum1 at e
  split at e
  · split at e
    · rename_i ns e1
      cases e
      obtain ⟨w, rfl, r1⟩ := vrs1 h.bag.sub r
      refine op_d _ ?_ (.d rfl)
      unfold sumO1
      simp only [lints_ok h r1 e1]
    · cases e
  · cases e
def pairP : PyData → Option (Key × PyData)
  | .tuple [k, y] => (DL.keyOf k).map fun k => (k, y)
  | _ => none
def pairsP : List PyData → Option (List (Key × PyData))
  | [] => some []
  | x :: r => (match pairP x, pairsP r with
    | some p, some l => some (p :: l)
    | _, _ => none)
inductive RdPs (m : Mm) (A : List Nat) : List (Key × Wd) → List (Key × PyData) → Prop
  | nil : RdPs m A [] []
  | cons {k : Key} {w : Wd} {y : PyData} {ws : List (Key × Wd)} {ys : List (Key × PyData)} : RdA m A w y → RdPs m A ws ys → RdPs m A ((k, w) :: ws) ((k, y) :: ys)
theorem pairs_ok : ∀ {ws : List Wd} {xs : List PyData} {ps : List (Key × PyData)}, RdsA m A ws xs → pairsP xs = some ps → ∃ qs, pairsW ws = some qs ∧ RdPs m A qs ps ∧ qs.length = ps.length
  | _, [], ps, .nil, e => by cases e; exact ⟨[], rfl, .nil, rfl⟩
  | _, x :: r, ps, .cons (w := w) h hs, e => by
    have e' : (match pairP x, pairsP r with
      | some p, some l => some (p :: l)
      | _, _ => none) = some ps := e
    cases q1 : pairP x with
    | none => rw [q1] at e'; cases e'
    | some p =>
      cases q2 : pairsP r with
      | none => rw [q1, q2] at e'; cases e'
      | some l =>
        rw [q1, q2] at e'
        cases e'
        obtain ⟨qs, h1, h2, h3⟩ := pairs_ok hs q2
        unfold pairP at q1
        split at q1
        · rename_i k y
          obtain ⟨kk, hk, rfl⟩ := Option.map_eq_some_iff.mp q1
          obtain ⟨us, hu, ru⟩ := RdA.tupI h
          cases ru with
          | cons r1 rr =>
            cases rr with
            | cons r2 rr =>
              cases rr
              rename_i wk wy
              have ok : okD k = true := kd_ok (b := .f) (by show (DL.keyOf k).isSome = true; rw [hk]; rfl)
              refine ⟨(kk, wy) :: qs, ?_, .cons r2 h2, by simp [h3]⟩
              show (match pairW w, pairsW _ with
                | some p, some l => some (p :: l)
                | _, _ => none) = _
              have ew : pairW w = some (kk, wy) := by
                unfold pairW
                rw [hu]
                simp only [RdA.nrm r1 ok, keyW, hk, Option.map_some]
              rw [ew, h1]
        · cases q1
end
end PD
set_option Elab.async false
set_option linter.all false
set_option maxRecDepth 100000
set_option maxHeartbeats 2000000
namespace PD
open PySem PySem.Spec PyProof.Rows L2 DL
def popP (ys : List PyData) : List PV → Option (PyData × List PyData)
  | [] => (ys[ys.length - 1]?).map fun x => (x, ys.dropLast)
  | [.d (.int i)] => if -(2 ^ 63) ≤ i ∧ i < 2 ^ 63 then (match seqIndex? i ys.length with
    | some k => (ys[k]?).map fun x => (x, ys.eraseIdx k)
    | none => none) else none
  | _ => none
def pAppPop (j l : Nat) (g : Pe (List PV)) : Ps := fun e s => if j = l then .stuck else match e[j]?, e[l]? with
  | some (.own (.l xs)), some (.own (.l ys)) => prs (g e s) e fun vs s => match popP ys vs with
    | some (x, zs) => if xs.length < LIM then .go .nx ((e.set l (.own (.l zs))).set j (.own (.l (xs ++ [x])))) s else .stuck
    | none => .stuck
  | _, _ => .stuck
section
variable {tl : List (Str × Str)} {B : Lo} {n0 b0 b1 : Nat} {A : List Nat} {env : DL.Env} {m m' m1 : Mm} {pe : PEnv} {s s' : Bg} {g : Pe (List PV)} {f : Em (List Wd)}
theorem RdsA.dropLast {ws : List Wd} {xs : List PyData} (h : RdsA m A ws xs) : RdsA m A ws.dropLast xs.dropLast := by
  rw [List.dropLast_eq_take, List.dropLast_eq_take, h.length]
  exact h.take _
end
def pdcL (t : Tg) (c : Pe Bool) (fk fv : Pe PV) (e0 : PEnv) : List PyData → List (PyData × PyData) → Bg → PR (List (PyData × PyData))
  | [], acc, s => .ok acc s
  | x :: xs, acc, s => match putP t x e0 with
    | none => .stuck
    | some e => (c e s).bind fun b s => if b = true then (fk e s).bind fun k s => (fv e s).bind fun v s => (match k, frz v with
      | .d kk, some y => (match DL.keyOf kk with
        | some k => if acc.length < LIM then pdcL t c fk fv e0 xs (ppK acc k kk y) s else .stuck
        | none => .stuck)
      | _, _ => .stuck) else pdcL t c fk fv e0 xs acc s
def pDc (g : Pe PIt) (t : Tg) (c : Pe Bool) (fk fv : Pe PV) (own : List Nat) : Pe PV := fun e s => (g e s).bind fun p s => match pdcL t c fk fv (forgetP own e) p.xs [] s with
  | .ok xs s => .ok (.fr (.k xs)) s
  | _ => .stuck
end PD
set_option Elab.async false
set_option linter.all false
set_option maxRecDepth 100000
set_option maxHeartbeats 2000000
namespace PD
open PySem PySem.Spec PyProof.Rows L2 DL
end PD
set_option Elab.async false
set_option linter.all false
set_option maxRecDepth 100000
set_option maxHeartbeats 2000000
namespace PD
open PySem PySem.Spec PyProof.Rows L2 DL
def pIsB (a b : PV) : Option PV := match a, b with
  | .d (.bool a), .d (.bool b) => some (.d (.bool (decide (a = b))))
  | _, _ => none
theorem op_isB : Op2Ok isBO pIsB := fun {tl B n0 A env m pe s a b wa wb v} h ra rb e => by
  unfold pIsB at e
  split at e
  · rename_i x y
    cases e
    have e1 : wa = .d (.bool x) := RdA.flat (show RdA m A wa (.bool x) from ra) rfl
    have e2 : wb = .d (.bool y) := RdA.flat (show RdA m A wb (.bool y) from rb) rfl
    subst e1 e2
    exact op_d _ rfl (.d rfl)
  · cases e
end PD
set_option Elab.async false
set_option linter.all false
set_option maxRecDepth 100000
set_option maxHeartbeats 2000000
namespace PD
open PySem PySem.Spec PyProof.Rows L2 DL
end PD
set_option Elab.async false
set_option linter.all false
set_option maxRecDepth 100000
set_option maxHeartbeats 2000000
namespace PD
open PySem PySem.Spec PyProof.Rows L2 DL
end PD
set_option Elab.async false
set_option linter.all false
set_option maxRecDepth 100000
set_option maxHeartbeats 2000000
namespace PD
open PySem PySem.Spec PyProof.Rows L2 DL
end PD
set_option Elab.async false
set_option linter.all false
set_option maxRecDepth 100000
set_option maxHeartbeats 2000000
namespace PD
open PySem PySem.Spec PyProof.Rows L2 DL
def getFd (f : Str) : List (Str × Fd) → Option Fd
  | [] => none
  | (g, x) :: r => if f = g then some x else getFd f r
def putFd (f : Str) (x : Fd) : List (Str × Fd) → List (Str × Fd)
  | [] => [(f, x)]
  | (g, y) :: r => if g = f then (g, x) :: r else (g, y) :: putFd f x r
def insFd (f : Str) : List (PyData × PyData) → Option PyData
  | (.str g, x) :: r => if f = g then some x else insFd f r
  | _ => none
def fdV : Fd → Option PV
  | .d x => some (.d x)
  | .ob k => some (.ob k)
  | .c _ => none
/-- a field's value -/
def fldV (cs : List Str) (f : Str) (os : List Ob) : PV → Option PV
  | .ob k => match os[k]? with
    | some o => if o.cls ∈ cs then (match getFd f o.fs with
      | some d => fdV d
      | none => none) else none
    | none => none
  | .d (.dict ((.bool false, .str c) :: fs)) => if c ∈ cs then (match insFd f fs with
    | some x => some (.d x)
    | none => none) else none
  | _ => none
def pFld (cs : List Str) (f : Str) (g : Pe PV) : Pe PV := fun e s => (g e s).bind fun v s => PR.of (fldV cs f s.obs v) s
/-- an object with a field written -/
def obW (cs : List Str) (f : Str) (x : Fd) (os : List Ob) (k : Nat) : Option (List Ob) := match os[k]? with
  | some o => if o.cls ∈ cs ∧ o.fs.length < 1000 then some (os.set k ⟨o.cls, putFd f x o.fs⟩) else none
  | none => none
def obk : PV → Option Nat
  | .ob k => some k
  | _ => none
def pFSet (cs : List Str) (f : Str) (go gv : Pe PV) : Ps := fun e s => prs (gv e s) e fun v s => match frz v with
  | some x => prs (go e s) e fun o s => match obk o with
    | some k => match obW cs f (.d x) s.obs k with
      | some os => .go .nx e { s with obs := os }
      | none => .stuck
    | none => .stuck
  | none => .stuck
def fldD (cs : List Str) (f : Str) (os : List Ob) (k : Nat) : Option (Str × PyData) := match os[k]? with
  | some o => if o.cls ∈ cs then (match getFd f o.fs with
    | some (.d x) => some (o.cls, x)
    | _ => none) else none
  | none => none
def pFAug (cs : List Str) (f : Str) (p : PV → PV → Option PV) (go gv : Pe PV) : Ps := fun e s => prs (go e s) e fun o s => match obk o with
  | some k => match fldD cs f s.obs k with
    | some (c, x) => prs (gv e s) e fun y s => match p (.d x) y with
      | some (.d z) => match obW [c] f (.d z) s.obs k with
        | some os => .go .nx e { s with obs := os }
        | none => .stuck
      | _ => .stuck
    | none => .stuck
  | none => .stuck
def obWs (cs : List Str) : List Str → List PyData → List Ob → Nat → Option (List Ob)
  | [], [], os, _ => some os
  | f :: fs, x :: xs, os, k => match obW cs f (.d x) os k with
    | some os => obWs cs fs xs os k
    | none => none
  | _, _, _, _ => none
def pFPar (cs : List Str) (i : Nat) (fs : List Str) (g : Pe PV) : Ps := fun e s => prs (g e s) e fun v s => match frz v with
  | some (.tuple xs) => match e[i]? with
    | some (.ob k) => match obWs cs fs xs s.obs k with
      | some os => .go .nx e { s with obs := os }
      | none => .stuck
    | _ => .stuck
  | _ => .stuck
section
variable {tl : List (Str × Str)} {B : Lo} {n0 b0 b1 : Nat} {A A' A2 : List Nat} {env env0 : DL.Env} {m m' m1 m2 : Mm} {pe pe0 : PEnv} {s s' : Bg} {ga gb : Pe PV} {fa fb : Em Wd} {cs : List (Str × Nat)} {f : Str}
theorem FdsR.get {x : Fd} : ∀ {ws : List (Str × Wd)} {xs : List (Str × Fd)}, FdsR B cs A m ws xs → getFd f xs = some x → ∃ w, fldG f ws = some w ∧ FdR B cs A m f w x
  | [], [], _, e => by cases e
  | (g, w) :: ws, (g', y) :: xs, ⟨h1, h2, h3⟩, e => by
    subst h1
    unfold getFd at e
    unfold fldG
    by_cases hf : f = g
    · subst hf
      rw [if_pos rfl] at e ⊢
      cases e
      exact ⟨w, rfl, h2⟩
    · rw [if_neg hf] at e ⊢
      exact FdsR.get h3 e
  | [], _ :: _, h, _ => h.elim
  | _ :: _, [], h, _ => h.elim
theorem FdsR.none : ∀ {ws : List (Str × Wd)} {xs : List (Str × Fd)}, FdsR B cs A m ws xs → getFd f xs = none → fldG f ws = none
  | [], [], _, e => rfl
  | (g, w) :: ws, (g', y) :: xs, ⟨h1, h2, h3⟩, e => by
    subst h1
    unfold getFd at e
    unfold fldG
    by_cases hf : f = g
    · rw [if_pos hf] at e; cases e
    · rw [if_neg hf] at e ⊢
      exact FdsR.none h3 e
  | [], _ :: _, h, _ => h.elim
  | _ :: _, [], h, _ => h.elim
theorem FdsR.put {w : Wd} {x : Fd} (r : FdR B cs A m f w x) : ∀ {ws : List (Str × Wd)} {xs : List (Str × Fd)}, FdsR B cs A m ws xs → FdsR B cs A m (fldP f w ws) (putFd f x xs)
  | [], [], _ => ⟨rfl, r, trivial⟩
  | (g, u) :: ws, (g', y) :: xs, ⟨h1, h2, h3⟩ => by
    subst h1
    unfold fldP putFd
    by_cases hg : g = f
    · subst hg
      rw [if_pos rfl, if_pos rfl]
      exact ⟨rfl, r, h3⟩
    · rw [if_neg hg, if_neg hg]
      exact ⟨rfl, h2, FdsR.put r h3⟩
  | [], _ :: _, h => h.elim
  | _ :: _, [], h => h.elim
theorem FdsR.length : ∀ {ws : List (Str × Wd)} {xs : List (Str × Fd)}, FdsR B cs A m ws xs → ws.length = xs.length
  | [], [], _ => rfl
  | (_, _) :: _, (_, _) :: _, ⟨_, _, h⟩ => congrArg (· + 1) (FdsR.length h)
  | [], _ :: _, h => h.elim
  | _ :: _, [], h => h.elim
theorem RdiA.get {x : PyData} : ∀ {ws : List (Str × Wd)} {xs : List (Str × PyData)}, RdiA m A ws xs → insFd f (xs.map fun p => (.str p.1, p.2)) = some x → ∃ w, fldG f ws = some w ∧ RdA m A w x
  | _, _, .nil, e => by cases e
  | _, _, .cons (f := g) (w := w) h hs, e => by
    rw [List.map_cons] at e
    unfold insFd at e
    unfold fldG
    by_cases hf : f = g
    · rw [if_pos hf] at e ⊢
      cases e
      exact ⟨_, rfl, h⟩
    · rw [if_neg hf] at e ⊢
      exact RdiA.get hs e
theorem RdiA.none : ∀ {ws : List (Str × Wd)} {xs : List (Str × PyData)}, RdiA m A ws xs → insFd f (xs.map fun p => (.str p.1, p.2)) = none → fldG f ws = none
  | _, _, .nil, e => rfl
  | _, _, .cons (f := g) (w := w) h hs, e => by
    rw [List.map_cons] at e
    unfold insFd at e
    unfold fldG
    by_cases hf : f = g
    · rw [if_pos hf] at e; cases e
    · rw [if_neg hf] at e ⊢
      exact RdiA.none hs e
/-- the cell of an object -/
theorem ob_at (h : BagR B A m s) {k : Nat} {l : OLo} {o : Ob} (e : B.obs[k]? = some l) (eo : s.obs[k]? = some o) : ∃ ws, Has m l.n (.ins o.cls ws) ∧ FdsR B l.cs A m ws o.fs := (h.2.at_ k l o e eo).fs
theorem insI {w : Wd} {c : Str} {fs : List (PyData × PyData)} (r : RdA m A w (.dict ((.bool false, .str c) :: fs))) : ∃ n ws ds, w = .ref n ∧ Has m n (.ins c ws) ∧ n ∉ A ∧ RdiA m A ws ds ∧ fs = ds.map fun p => (.str p.1, p.2) := by
  cases r with
  | d h => cases h
  | dct _ _ hs => cases hs with | cons hk _ _ => cases hk
  | ndc _ _ hs _ => cases hs with | cons hk _ _ => cases hk
  | ins hh hn hs => exact ⟨_, _, _, rfl, hh, hn, hs, rfl⟩
theorem fld_ok {cs : List Str} {v v' : PV} {w : Wd} (h : SR tl B n0 A env m pe s) (r : VR pe env B A b0 m v w) (e : fldV cs f s.obs v = some v') : ∃ w', fldO cs f w m = some (w', m) ∧ VR pe env B A b1 m v' w' := by
  unfold fldV at e
  split at e
  · rename_i k
    obtain ⟨l, el, ew⟩ := r
    split at e
    · rename_i o eo
      split at e
      · rename_i hc
        obtain ⟨ws, hh, hf⟩ := ob_at h.bag el eo
        split at e
        · rename_i d ed
          obtain ⟨w', e1, r1⟩ := hf.get ed
          refine ⟨w', ?_, ?_⟩
          · subst ew
            unfold fldO
            simp only [show m.cells[l.n]? = some (.ins o.cls ws) from hh, if_pos hc, e1]
            rfl
          · cases d with
            | d x => cases e; exact r1
            | ob j => cases e; exact r1
            | c c => cases e
        · cases e
      · cases e
    · cases e
  · rename_i c fs
    split at e
    · rename_i hc
      obtain ⟨n, ws, ds, ew, hh, hn, hs, ef⟩ := insI (show RdA m A w _ from r)
      subst ef
      split at e
      · rename_i x ex
        cases e
        obtain ⟨w', e1, r1⟩ := hs.get ex
        refine ⟨w', ?_, r1⟩
        subst ew
        unfold fldO
        simp only [show m.cells[n]? = some (.ins c ws) from hh, if_pos hc, e1]
        rfl
      · cases e
    · cases e
  · cases e
theorem sim_fld {cs : List Str} (ha : SimE tl ga fa) : SimE tl (pFld cs f ga) (e1 (fldO cs f) fa) := fun B n0 A env m pe s h =>
  (ha B n0 A env m pe s h).bind baseV fun a wa m1 s1 f1 w1 b1 r1 => by
    have h1 := h.step f1 w1 b1
    cases e : fldV cs f s1.obs a with
    | none => trivial
    | some v =>
      obtain ⟨w, e1, r⟩ := fld_ok (b1 := m1.cells.length) h1 r1 e
      rw [e1]
      exact relE_of h1 (.inl rfl) r
theorem ob_uniq (nd : (bagA B).Nodup) {i j n : Nat} {l l' : OLo} (e : B.obs[i]? = some l) (e' : B.obs[j]? = some l') (hn : n ∈ l.all) (hn' : n ∈ l'.all) : i = j := by
  have nd2 : B.obA.Nodup := (List.nodup_append.mp nd).2.1
  unfold Lo.obA at nd2
  have key : ∀ (L : List OLo) (i j : Nat), (L.flatMap OLo.all).Nodup → L[i]? = some l → L[j]? = some l' → i = j := by
    intro L
    induction L with
    | nil => intro i j _ e _; simp at e
    | cons q L ih =>
      intro i j nd e e'
      rw [List.flatMap_cons] at nd
      obtain ⟨n1, n2, n3⟩ := List.nodup_append.mp nd
      have mem : ∀ {k : Nat} {o : OLo}, L[k]? = some o → ∀ x ∈ o.all, x ∈ L.flatMap OLo.all := fun ek x hx => List.mem_flatMap.mpr ⟨_, List.mem_of_getElem? ek, hx⟩
      cases i with
      | zero =>
        cases j with
        | zero => rfl
        | succ j =>
          simp at e e'
          subst e
          exact absurd rfl (n3 n hn n (mem e' n hn'))
      | succ i =>
        cases j with
        | zero =>
          simp at e e'
          subst e'
          exact absurd rfl (n3 n hn' n (mem e n hn))
        | succ j => exact congrArg (· + 1) (ih i j n2 (by simpa using e) (by simpa using e'))
  exact key B.obs i j nd2 e e'
theorem ob_nd (nd : (bagA B).Nodup) {i : Nat} {l : OLo} (e : B.obs[i]? = some l) : l.all.Nodup := by
  have nd2 : B.obA.Nodup := (List.nodup_append.mp nd).2.1
  unfold Lo.obA at nd2
  have key : ∀ (L : List OLo), (L.flatMap OLo.all).Nodup → l ∈ L → l.all.Nodup := by
    intro L
    induction L with
    | nil => intro _ h; cases h
    | cons q L ih =>
      intro nd h
      rw [List.flatMap_cons] at nd
      obtain ⟨n1, n2, _⟩ := List.nodup_append.mp nd
      rcases List.mem_cons.mp h with e | h
      · rw [e]; exact n1
      · exact ih n2 h
  exact key B.obs nd2 (List.mem_of_getElem? e)
theorem bag_ob (nd : (bagA B).Nodup) {k : Nat} (h1 : k ∈ bag2 B.bag) (h2 : k ∈ B.obA) : False := (List.nodup_append.mp nd).2.2 k h1 k h2 rfl
/-- an object's cell written -/
theorem ob_put (h : SR tl B n0 A env m pe s) {k : Nat} {l : OLo} {o : Ob} {ws : List (Str × Wd)} {w : Wd} {x : Fd} (el : B.obs[k]? = some l) (eo : s.obs[k]? = some o) (hh : Has m l.n (.ins o.cls ws)) (hf : FdsR B l.cs A m ws o.fs) (r : FdR B l.cs A m f w x) (hw : w.lt m.cells.length = true) :
    SR tl B n0 A env (m.put l.n (.ins o.cls (fldP f w ws)) (w.lt 0)) pe { s with obs := s.obs.set k ⟨o.cls, putFd f x o.fs⟩ } ∧ St B n0 A m A (m.put l.n (.ins o.cls (fldP f w ws)) (w.lt 0)) := by
  have nO : l.n ∈ B.obA := ob_all el _ List.mem_cons_self
  have nA : l.n ∈ A := h.bag.2.sub _ nO
  have nC : l.n ∈ bagC B := List.mem_append_right _ nO
  have nd := h.bag.2.nd
  have eq : ∀ q, q ≠ l.n → (m.put l.n (.ins o.cls (fldP f w ws)) (w.lt 0)).cells[q]? = m.cells[q]? := fun q hq => List.getElem?_set_ne (Ne.symm hq)
  have mv : ∀ q c, Has m q c → q ∉ A → Has (m.put l.n (.ins o.cls (fldP f w ws)) (w.lt 0)) q c ∧ q ∉ A := fun q c hk hn => ⟨hk.put fun z => hn (by rw [← z]; exact nA), hn⟩
  have lto : ∀ p ∈ ws, p.2.lt m.cells.length = true := Cell.lt_ins.mp (h.wf.lt _ _ hh)
  have h0 : ∀ q ∈ l.cs, ∀ c, Has m q.2 c → Has (m.put l.n (.ins o.cls (fldP f w ws)) (w.lt 0)) q.2 c := fun q hq c hc => hc.put fun z => by
    have := ob_nd nd el
    unfold OLo.all at this
    exact (List.nodup_cons.mp this).1 (by rw [z]; exact List.mem_map_of_mem hq)
  have hk : k < s.obs.length := get_of eo
  refine ⟨⟨h.wf.put hh (Cell.lt_ins.mpr (fldP_lt hw lto)) ?_, by rw [put_len]; exact h.le, h.len, fun j y e1 => ?_, h.bagv, h.obv, fun j c e1 => ?_, h.dst, ⟨?_, ?_⟩, fun q hq => by rw [put_len]; exact h.alt q hq, fun p hp => ?_⟩,
    by rw [put_len]; exact Nat.le_refl _, fun q hq hn => eq q fun z => hn (by rw [z]; exact nC), fun q hq hn => eq q fun z => hn (by rw [z]; exact nA), fun q hq => .inl hq, fun q hq _ => hq⟩
  · intro hp b hb
    exact Cell.lt_ins.mpr (fldP_lt (Wd.lt_mono (Nat.zero_le b) hp) (Cell.lt_ins.mp hb))
  · obtain ⟨w', q1, q2⟩ := h.val j y e1
    exact ⟨w', q1, q2.mv mv⟩
  · obtain ⟨k', cl2, g1, g2, g3, g4, g5, g6⟩ := h.own j c e1
    exact ⟨k', cl2, g1, g2, g3, g4, g5.put fun z => g4 (by rw [← z]; exact bagC_A nC), g6.mv mv⟩
  · have hb := h.bag.1
    cases q : B.bag with
    | none => trivial
    | some p =>
      obtain ⟨i, r⟩ := p
      rw [q] at hb
      have ni : ∀ z ∈ bag2 B.bag, l.n ≠ z := fun z hz e => bag_ob nd hz (by rw [← e]; exact nO)
      rw [q] at ni
      exact ⟨hb.1, hb.2.1, hb.2.2.1, hb.2.2.2.1.put (ni i (by simp [bag2])), hb.2.2.2.2.1.put (ni r (by simp [bag2])), hb.2.2.2.2.2⟩
  · refine ⟨by simp [h.bag.2.len], fun j l' o' e1 e2 => ?_, nd, h.bag.2.sub⟩
    have e2' : (s.obs.set k ⟨o.cls, putFd f x o.fs⟩)[j]? = some o' := e2
    by_cases hj : j = k
    · subst hj
      rw [List.getElem?_set_self hk] at e2'
      cases e2'
      rw [el] at e1
      cases e1
      refine ⟨⟨_, has_put hh.lt, (hf.mv h0 mv).put (FdR.mv h0 mv r)⟩, fun q hq => ?_⟩
      obtain ⟨cl, c, g1, g2⟩ := (h.bag.2.at_ j l o el eo).cs q hq
      exact ⟨cl, c, h0 q hq _ g1, g2.mv mv⟩
    · rw [List.getElem?_set_ne (Ne.symm hj)] at e2'
      exact (h.bag.2.at_ j l' o' e1 e2').mv (fun n hn c hc => hc.put fun z => hj (ob_uniq nd e1 el hn (by rw [← z]; exact List.mem_cons_self))) mv
  · obtain ⟨q, hq⟩ := h.tab p hp
    refine ⟨q, hq.put fun z => ?_⟩
    subst z
    have := hh.inj hq
    cases this
theorem obW_ok {cs : List Str} (h : SR tl B n0 A env m pe s) {k : Nat} {l : OLo} {w : Wd} {x : PyData} {os : List Ob} (el : B.obs[k]? = some l) (r : RdA m A w x) (e : obW cs f (.d x) s.obs k = some os) :
    ∃ m', fsetO cs f (.ref l.n) w m = some m' ∧ SR tl B n0 A env m' pe { s with obs := os } ∧ St B n0 A m A m' := by
  unfold obW at e
  split at e
  · rename_i o eo
    split at e
    · rename_i hc
      cases e
      obtain ⟨ws, hh, hf⟩ := ob_at h.bag el eo
      refine ⟨_, ?_, ob_put h el eo hh hf (x := .d x) r r.lt⟩
      unfold fsetO
      simp only [show m.cells[l.n]? = some (.ins o.cls ws) from hh]
      rw [if_pos ⟨hc.1, by rw [hf.length]; exact hc.2⟩]
    · cases e
  · cases e
theorem obk_ok {v : PV} {w : Wd} {k : Nat} (r : VR pe env B A b0 m v w) (e : obk v = some k) : ∃ l, B.obs[k]? = some l ∧ w = .ref l.n := by
  cases v with
  | ob j => cases e; exact r
  | _ => cases e
theorem sim_fset {cs : List Str} (ho : SimE tl ga fa) (hv : SimE tl gb fb) : SimS tl (pFSet cs f ga gb) (sFSet cs f fa fb) := fun B n0 A env m pe s h => by
  refine relS_rs h (hv B n0 A env m pe s h) fun v w m1 s1 f1 w1 b1 r1 => ?_
  have h1 := h.step f1 w1 b1
  cases e : frz v with
  | none => simp only [e]; trivial
  | some x =>
    simp only [e]
    refine relS_rs h1 (ho B n0 A env m1 pe s1 h1) fun o wo m2 s2 f2 w2 b2 r2 => ?_
    have h2 := h1.step f2 w2 b2
    have rx := (frz_ok r1 e).fr h1.bag.sub f2
    cases e2 : obk o with
    | none => simp only [e2]; trivial
    | some k =>
      simp only [e2]
      obtain ⟨l, el, ew⟩ := obk_ok r2 e2
      subst ew
      cases e3 : obW cs f (.d x) s2.obs k with
      | none => simp only [e3]; trivial
      | some os =>
        simp only [e3]
        obtain ⟨m3, q1, q2, q3⟩ := obW_ok h2 el rx e3
        rw [q1]
        exact ⟨.nx, env, m3, A, rfl, q3, q2⟩
theorem fldD_ok {cs : List Str} (h : SR tl B n0 A env m pe s) {k : Nat} {l : OLo} {c : Str} {x : PyData} (el : B.obs[k]? = some l) (e : fldD cs f s.obs k = some (c, x)) : insC (.ref l.n) m = some c ∧ c ∈ cs ∧ ∃ w, fldO [c] f (.ref l.n) m = some (w, m) ∧ RdA m A w x := by
  unfold fldD at e
  split at e
  · rename_i o eo
    split at e
    · rename_i hc
      split at e
      · rename_i y ey
        cases e
        obtain ⟨ws, hh, hf⟩ := ob_at h.bag el eo
        obtain ⟨w, e1, r1⟩ := hf.get ey
        refine ⟨?_, hc, w, ?_, r1⟩
        · unfold insC
          simp only [show m.cells[l.n]? = some (.ins o.cls ws) from hh]
        · unfold fldO
          simp only [show m.cells[l.n]? = some (.ins o.cls ws) from hh, e1, if_pos (List.mem_singleton.mpr (rfl : o.cls = o.cls))]
          rfl
      · cases e
    · cases e
  · cases e
theorem sim_faug {cs : List Str} {g : Op2} {p : PV → PV → Option PV} (hg : Op2Ok g p) (ho : SimE tl ga fa) (hv : SimE tl gb fb) : SimS tl (pFAug cs f p ga gb) (sFAug cs f g fa fb) := fun B n0 A env m pe s h => by
  refine relS_rs h (ho B n0 A env m pe s h) fun o wo m1 s1 f1 w1 b1 r1 => ?_
  have h1 := h.step f1 w1 b1
  cases e2 : obk o with
  | none => simp only [e2]; trivial
  | some k =>
    simp only [e2]
    obtain ⟨l, el, ew⟩ := obk_ok r1 e2
    subst ew
    cases e3 : fldD cs f s1.obs k with
    | none => simp only [e3]; trivial
    | some cx =>
      obtain ⟨c, x⟩ := cx
      simp only [e3]
      obtain ⟨q1, q2, wx, q3, q4⟩ := fldD_ok h1 el e3
      simp only [q1, q3, if_pos q2]
      refine relS_rs h1 (hv B n0 A env m1 pe s1 h1) fun y wy m2 s2 f2 w2 b2 r2 => ?_
      have h2 := h1.step f2 w2 b2
      cases e4 : p (.d x) y with
      | none => simp only [e4]; trivial
      | some z =>
        have rx : VR pe env B A 0 m2 (.d x) wx := q4.fr h1.bag.sub f2
        obtain ⟨wz, m3, g1, nx, rz⟩ := hg h2 rx (r2.base (Nat.zero_le _)) e4
        cases z with
        | d z =>
          simp only [e4]
          cases e5 : obW [c] f (.d z) s2.obs k with
          | none => simp only [e5]; trivial
          | some os =>
            simp only [e5]
            have f3 : Fr (bagC B) m2 m3 := nx.fr0.any
            have h3 : SR tl B n0 A env m3 pe s2 := h2.step f3 (nx.wf w2) (h2.bag.fr0 nx.fr0)
            obtain ⟨m4, k1, k2, k3⟩ := obW_ok h3 el (show RdA m3 A wz z from rz) e5
            rw [g1]
            simp only [Rs.of_some, rs_ok, k1]
            exact ⟨.nx, env, m4, A, rfl, (St.fr h2.bag.sub h2.le f3).trans k3, k2⟩
        | _ => simp only [e4]; trivial
theorem obWs_ok {cs : List Str} {k : Nat} {l : OLo} (el : B.obs[k]? = some l) : ∀ {fs : List Str} {ws : List Wd} {xs : List PyData} {m : Mm} {s : Bg} {os : List Ob}, SR tl B n0 A env m pe s → RdsA m A ws xs → obWs cs fs xs s.obs k = some os →
    ∃ m', fsetsO cs (.ref l.n) fs ws m = some m' ∧ SR tl B n0 A env m' pe { s with obs := os } ∧ St B n0 A m A m'
  | [], ws, [], m, s, os, h, r, e => by
    cases r
    cases e
    exact ⟨m, rfl, h, .refl⟩
  | f :: fs, _, x :: xs, m, s, os, h, .cons (w := w) (ws := ws) r rs, e => by
    unfold obWs at e
    split at e
    · rename_i os1 e1
      obtain ⟨m1, q1, q2, q3⟩ := obW_ok h el r e1
      have mv : ∀ k c, Has m k c → k ∉ A → Has m1 k c ∧ k ∉ A := fun k c hk hn => ⟨(q3.fix k hk.lt hn).trans hk, hn⟩
      obtain ⟨m2, p1, p2, p3⟩ := obWs_ok el q2 (rs.mv mv) e
      refine ⟨m2, ?_, p2, q3.trans p3⟩
      show (fsetO cs f (.ref l.n) w m).bind (fun m => fsetsO cs (.ref l.n) fs ws m) = _
      rw [q1]
      exact p1
    · cases e
  | [], _, _ :: _, _, _, _, _, _, e => by cases e
  | _ :: _, _, [], _, _, _, _, _, e => by cases e
theorem sim_fpar {cs : List Str} {i : Nat} {fs : List Str} (hv : SimE tl ga fa) : SimS tl (pFPar cs i fs ga) (sFPar cs i fs fa) := fun B n0 A env m pe s h =>
  relS_rs h (hv B n0 A env m pe s h) fun v w m1 s1 f1 w1 b1 r1 => by
    have h1 := h.step f1 w1 b1
    split
    · rename_i xs ex
      split
      · rename_i k ek
        obtain ⟨l, el, ew⟩ := h1.obv i k ek
        obtain ⟨ws, t1, t2⟩ := RdA.tupI (frz_ok r1 ex)
        split
        · rename_i os eo
          obtain ⟨m2, q1, q2, q3⟩ := obWs_ok el h1 t2 eo
          simp only [ew, t1, q1]
          exact ⟨.nx, env, m2, A, rfl, q3, q2⟩
        · trivial
      · trivial
    · trivial
end
end PD
set_option Elab.async false
set_option linter.all false
set_option maxRecDepth 100000
set_option maxHeartbeats 2000000
namespace PD
open PySem PySem.Spec PyProof.Rows L2 DL
/-- an object's class, where no field has the method's name -/
def clsV (x : Str) (os : List Ob) : PV → Option Str
  | .ob k => match os[k]? with
    | some o => if (getFd x o.fs).isNone = true then some o.cls else none
    | none => none
  | .d (.dict ((.bool false, .str c) :: fs)) => if (insFd x fs).isNone = true then some c else none
  | _ => none
def callMe (ms : List (Str × PFn)) (x : Str) (n : Nat) (o : PV) (ga : Pe (List PV)) : Pe PV := fun e s => match clsV x s.obs o with
  | some c => match ms.lookup c with
    | some P => (ga e s).bind fun vs s => match frzA vs with
      | some us => if us.length + 1 = n then P (o :: us) s else .stuck
      | none => .stuck
    | none => .stuck
  | none => .stuck
def pMe (ms : List (Str × PFn)) (x : Str) (n : Nat) (go : Pe PV) (ga : Pe (List PV)) : Pe PV := fun e s => (go e s).bind fun o s => callMe ms x n o ga e s
inductive SimM (tl : List (Str × Str)) : List (Str × PFn) → List (Str × Fn) → Prop
  | nil : SimM tl [] []
  | cons {c : Str} {P : PFn} {N : Fn} {ps : List (Str × PFn)} {ns : List (Str × Fn)} : SimF tl P N → SimM tl ps ns → SimM tl ((c, P) :: ps) ((c, N) :: ns)
def okOb (k : Nat) (o : Ob) : Bool := o.fs.all fun p => match p.2 with
  | .ob j => decide (j < k)
  | _ => true
/-- the objects from the k-th on are forgotten -/
def cutB (k : Nat) (s : Bg) : Option Bg := if (s.obs.take k).all (okOb k) = true then some { s with obs := s.obs.take k } else none
def dropSl (k : Nat) : Sl → Sl
  | .ob j => if j < k then .ob j else .no
  | x => x
def dropOb (k : Nat) (e : PEnv) : PEnv := e.map (dropSl k)
def nob : PV → Bool
  | .ob _ => false
  | _ => true
def flOk : PFl → Bool
  | .rt v => nob v
  | _ => true
def cutS (k : Nat) : PS → PS
  | .go fl e s => match cutB k s with
    | some s => if flOk fl = true then .go fl (dropOb k e) s else .stuck
    | none => .stuck
  | .exc x e s => match cutB k s with
    | some s => .exc x (dropOb k e) s
    | none => .stuck
  | .stuck => .stuck
def newB (c : Str) (s : Bg) : Bg := { s with obs := s.obs ++ [⟨c, []⟩] }
def pNewS (i : Nat) (c : Str) (n : Nat) (P : PFn) (ga : Pe (List PV)) (rest : Ps) : Ps := fun e s => prs (ga e s) e fun vs s => match frzA vs with
  | some us => if us.length + 1 = n then cutS s.obs.length (match P (.ob s.obs.length :: us) (newB c s) with
    | .ok (.d .none) s1 => rest (e.set i (.ob s.obs.length)) s1
    | .exc x s1 => .exc x e s1
    | _ => .stuck) else .stuck
  | none => .stuck
def Lo.add (B : Lo) (n : Nat) : Lo := ⟨B.bag, B.obs ++ [⟨n, []⟩]⟩
section
variable {tl : List (Str × Str)} {B : Lo} {n0 b0 b1 : Nat} {A A' A2 : List Nat} {env env0 : DL.Env} {m m' m1 m2 : Mm} {pe pe0 : PEnv} {s s' : Bg} {ga gb : Pe PV} {fa fb : Em Wd} {c x : Str}
theorem SimM.look {ps : List (Str × PFn)} {ns : List (Str × Fn)} (h : SimM tl ps ns) {P : PFn} (e : ps.lookup c = some P) : ∃ N, ns.lookup c = some N ∧ SimF tl P N := by
  induction h with
  | nil => cases e
  | @cons c' P' N' ps ns h1 h2 ih =>
    by_cases hc : c = c'
    · subst hc
      simp [List.lookup] at e ⊢
      subst e
      exact h1
    · have hb : (c == c') = false := by simpa using hc
      simp only [List.lookup, hb] at e ⊢
      exact ih e
theorem clsV_ok {ms : List (Str × Fn)} {o : PV} {w : Wd} (h : SR tl B n0 A env m pe s) (r : VR pe env B A b0 m o w) (e : clsV x s.obs o = some c) : meF ms x w m = ms.lookup c ∧ AR B A m o w := by
  unfold clsV at e
  split at e
  · rename_i k
    obtain ⟨l, el, ew⟩ := r
    split at e
    · rename_i ob eo
      split at e
      · rename_i hn
        cases e
        obtain ⟨ws, hh, hf⟩ := ob_at h.bag el eo
        refine ⟨?_, l, el, ew⟩
        subst ew
        unfold meF
        simp only [show m.cells[l.n]? = some (.ins ob.cls ws) from hh]
        rw [if_pos (hf.none (by simpa using hn))]
      · cases e
    · cases e
  · rename_i c' fs
    split at e
    · rename_i hn
      cases e
      obtain ⟨n, ws, ds, ew, hh, _, hs, ef⟩ := insI (show RdA m A w _ from r)
      refine ⟨?_, r⟩
      subst ef ew
      unfold meF
      simp only [show m.cells[n]? = some (.ins c ws) from hh]
      rw [if_pos (hs.none (by simpa using hn))]
    · cases e
  · cases e
theorem AR.step (hB : ∀ k ∈ bagC B, k ∈ A) (f : Fr (bagC B) m m') {v : PV} {w : Wd} (h : AR B A m v w) : AR B A m' v w := by
  cases v with
  | d x => exact RdA.fr hB f h
  | bag => exact h
  | ob k => exact h
  | fr c => exact h.elim
  | bo i c => exact h.elim
/-- the call behind the object's evaluation -/
theorem callMe_ok {ps : List (Str × PFn)} {ns : List (Str × Fn)} {n : Nat} {g : Pe (List PV)} {f : Em (List Wd)} {o : PV} {wo : Wd} (hM : SimM tl ps ns) (hg : SimA tl g f) (h : SR tl B n0 A env m pe s) (r : VR pe env B A b0 m o wo) :
    RelE (VR pe env B A) B A m (callMe ps x n o g pe s) (match meF ns x wo m with
      | some F => (f env m).bind fun ws m => if ws.length + 1 = n then F (wo :: ws) m else .stuck
      | none => .stuck) := by
  unfold callMe
  cases e : clsV x s.obs o with
  | none => trivial
  | some c =>
    simp only []
    cases e2 : ps.lookup c with
    | none => trivial
    | some P =>
      simp only []
      obtain ⟨N, eN, hF⟩ := hM.look e2
      obtain ⟨e3, ar⟩ := clsV_ok (ms := ns) h r e
      rw [e3, eN]
      simp only []
      refine (hg B n0 A env m pe s h).bind baseV fun vs ws m1 s1 f1 w1 b1 r1 => ?_
      have h1 := h.step f1 w1 b1
      cases e4 : frzA vs with
      | none => trivial
      | some us =>
        simp only []
        have ars := frzA_ok h.bag.sub r1 e4
        by_cases hl : us.length + 1 = n
        · rw [if_pos hl, if_pos (by rw [← ars.length]; exact hl)]
          exact (hF B A m1 s1 (o :: us) (wo :: ws) w1 b1 h1.alt h1.tab ⟨ar.step h.bag.sub f1, ars⟩).mono fun m' v w _ _ r => r.ofNil
        · rw [if_neg hl]; trivial
theorem sim_me {ps : List (Str × PFn)} {ns : List (Str × Fn)} {n : Nat} {g : Pe (List PV)} {f : Em (List Wd)} (hM : SimM tl ps ns) (ho : SimE tl ga fa) (hg : SimA tl g f) : SimE tl (pMe ps x n ga g) (eMe ns x n fa f) := fun B n0 A env m pe s h =>
  (ho B n0 A env m pe s h).bind baseV fun o wo m1 s1 f1 w1 b1 r1 => callMe_ok hM hg (h.step f1 w1 b1) r1
theorem add_up {n k : Nat} {l : OLo} (e : B.obs[k]? = some l) : (B.add n).obs[k]? = some l := by
  show (B.obs ++ [⟨n, []⟩])[k]? = _
  rw [List.getElem?_append_left (get_of e)]; exact e
theorem FdsR.toB {B' : Lo} {cs : List (Str × Nat)} : ∀ {ws : List (Str × Wd)} {xs : List (Str × Fd)}, (∀ p ∈ xs, ∀ j l, p.2 = .ob j → B.obs[j]? = some l → B'.obs[j]? = some l) → FdsR B cs A m ws xs → FdsR B' cs A m ws xs
  | [], [], _, _ => trivial
  | (_, _) :: _, (g, x) :: _, hj, ⟨e, h, hs⟩ => by
    refine ⟨e, ?_, FdsR.toB (fun p hp => hj p (List.mem_cons_of_mem _ hp)) hs⟩
    cases x with
    | d x => exact h
    | c c => exact h
    | ob j =>
      obtain ⟨l, q1, q2⟩ := h
      exact ⟨l, hj _ List.mem_cons_self j l rfl q1, q2⟩
  | [], _ :: _, _, h => h.elim
  | _ :: _, [], _, h => h.elim
theorem ObR.toB {B' : Lo} {l : OLo} {o : Ob} (hj : ∀ p ∈ o.fs, ∀ j l, p.2 = .ob j → B.obs[j]? = some l → B'.obs[j]? = some l) (h : ObR B A m l o) : ObR B' A m l o := by
  obtain ⟨⟨ws, e, hf⟩, hc⟩ := h
  exact ⟨⟨ws, e, hf.toB hj⟩, hc⟩
theorem add_obA {n : Nat} : (B.add n).obA = B.obA ++ [n] := by
  unfold Lo.obA Lo.add
  rw [List.flatMap_append]
  rfl
theorem add_bagA {n : Nat} : bagA (B.add n) = bagA B ++ [n] := by
  unfold bagA
  rw [add_obA, ← List.append_assoc]
  rfl
theorem add_bagC {n : Nat} : bagC (B.add n) = bagC B ++ [n] := by
  unfold bagC
  rw [add_obA, ← List.append_assoc]
  rfl
theorem SR.add (h : SR tl B n0 A env m pe s) : SR tl (B.add m.cells.length) n0 (m.cells.length :: A) env (m.push (.ins c [])) pe (newB c s) := by
  have mv : ∀ k c', Has m k c' → k ∉ A → Has (m.push (.ins c [])) k c' ∧ k ∉ m.cells.length :: A := fun k c' hk hn => ⟨hk.push, fun z => by
    rcases List.mem_cons.mp z with z | z
    · have := hk.lt; omega
    · exact hn z⟩
  have hb : BagR B (m.cells.length :: A) (m.push (.ins c [])) s := h.bag.new fr_push (fun k hk => by
    rcases List.mem_cons.mp hk with z | z
    · exact .inr (by rw [z]; exact Nat.le_refl _)
    · exact .inl z) fun k hk => List.mem_cons_of_mem _ hk
  refine ⟨h.wf.push rfl, by rw [push_len]; exact Nat.le_succ_of_le h.le, h.len, fun i y e => ?_, h.bagv, fun i k e => ?_, fun i c' e => ?_, h.dst, ⟨hb.1, ?_, fun k l o e1 e2 => ?_, ?_, fun k hk => ?_⟩, fun k hk => ?_, fun p hp => ?_⟩
  · obtain ⟨w, q1, q2⟩ := h.val i y e
    exact ⟨w, q1, q2.mv mv⟩
  · obtain ⟨l, q1, q2⟩ := h.obv i k e
    exact ⟨l, add_up q1, q2⟩
  · obtain ⟨n, cl, q1, q2, q3, q4, q5, q6⟩ := h.own i c' e
    refine ⟨n, cl, q1, List.mem_cons_of_mem _ q2, q3, fun z => ?_, q5.push, q6.mv mv⟩
    rw [add_bagA] at z
    rcases List.mem_append.mp z with z | z
    · exact q4 z
    · have := h.alt n q2
      rw [List.mem_singleton.mp z] at this
      omega
  · show (s.obs ++ [_]).length = (B.obs ++ [_]).length
    simp [h.bag.2.len]
  · have e1' : (B.obs ++ [⟨m.cells.length, []⟩])[k]? = some l := e1
    have e2' : (s.obs ++ [⟨c, []⟩])[k]? = some o := e2
    have hl := h.bag.2.len
    by_cases hk : k < B.obs.length
    · rw [List.getElem?_append_left hk] at e1'
      rw [List.getElem?_append_left (by rw [hl]; exact hk)] at e2'
      exact (hb.2.at_ k l o e1' e2').toB fun _ _ _ _ _ z => add_up z
    · have hk2 := get_of e1'
      rw [List.length_append, List.length_singleton] at hk2
      obtain rfl : k = B.obs.length := by omega
      rw [List.getElem?_append_right (Nat.le_refl _), Nat.sub_self] at e1'
      rw [List.getElem?_append_right (by omega), show B.obs.length - s.obs.length = 0 by omega] at e2'
      cases e1'
      cases e2'
      exact ⟨⟨[], has_push, trivial⟩, fun _ z => by cases z⟩
  · rw [add_bagA]
    refine List.nodup_append.mpr ⟨h.bag.2.nd, by simp, fun a ha b hb e => ?_⟩
    have := h.alt a (bagA_sub h.bag a ha)
    rw [e, List.mem_singleton.mp hb] at this
    omega
  · rw [add_obA] at hk
    rcases List.mem_append.mp hk with z | z
    · exact List.mem_cons_of_mem _ (h.bag.2.sub k z)
    · rw [List.mem_singleton.mp z]; exact List.mem_cons_self
  · rw [push_len]
    rcases List.mem_cons.mp hk with z | z
    · omega
    · exact Nat.lt_succ_of_lt (h.alt k z)
  · obtain ⟨k, hk⟩ := h.tab p hp
    exact ⟨k, hk.push⟩
theorem cutB_inv {k : Nat} {s s' : Bg} (e : cutB k s = some s') : s' = { s with obs := s.obs.take k } ∧ ∀ o ∈ s.obs.take k, okOb k o = true := by
  unfold cutB at e
  split at e
  · rename_i h
    cases e
    exact ⟨rfl, List.all_eq_true.mp h⟩
  · cases e
theorem BagR.cutO {n : Nat} (h : BagR (B.add n) A m s) (e : cutB B.obs.length s = some s') : BagR B A m s' := by
  obtain ⟨rfl, hok⟩ := cutB_inv e
  have hl := h.2.len
  have hl' : s.obs.length = B.obs.length + 1 := by rw [hl]; show (B.obs ++ [_]).length = _; simp
  refine ⟨h.1, ?_, fun k l o e1 e2 => ?_, ?_, fun k hk => h.2.sub k (by rw [add_obA]; exact List.mem_append_left _ hk)⟩
  · show (s.obs.take B.obs.length).length = _
    rw [List.length_take]; omega
  · have e2' : (s.obs.take B.obs.length)[k]? = some o := e2
    have hm := List.mem_of_getElem? e2'
    have hk := get_of e1
    rw [List.getElem?_take, if_pos hk] at e2'
    refine (h.2.at_ k l o (add_up e1) e2').toB fun p hp j l' ej z => ?_
    have h1 := List.all_eq_true.mp (hok o hm) p hp
    rw [ej] at h1
    have hj : j < B.obs.length := of_decide_eq_true h1
    have z' : (B.obs ++ [⟨n, []⟩])[j]? = some l' := z
    rw [List.getElem?_append_left hj] at z'
    exact z'
  · have := h.2.nd
    rw [add_bagA] at this
    exact (List.nodup_append.mp this).1
theorem drop_get {k i : Nat} {e : PEnv} {sl : Sl} (h : (dropOb k e)[i]? = some sl) (hn : sl ≠ .no) : e[i]? = some sl ∧ ∀ j, sl = .ob j → j < k := by
  unfold dropOb at h
  rw [List.getElem?_map] at h
  obtain ⟨z, e1, e2⟩ := Option.map_eq_some_iff.mp h
  cases z with
  | ob j =>
    have e2' : (if j < k then Sl.ob j else .no) = sl := e2
    by_cases hj : j < k
    · rw [if_pos hj] at e2'
      subst e2'
      exact ⟨e1, fun q hq => by cases hq; exact hj⟩
    · rw [if_neg hj] at e2'
      exact absurd e2'.symm hn
  | no => cases e2; exact absurd rfl hn
  | d x => cases e2; exact ⟨e1, fun _ h => by cases h⟩
  | own c => cases e2; exact ⟨e1, fun _ h => by cases h⟩
  | bag => cases e2; exact ⟨e1, fun _ h => by cases h⟩
theorem SR.cutO {n : Nat} (h : SR tl (B.add n) n0 A env m pe s) (e : cutB B.obs.length s = some s') : SR tl B n0 A env m (dropOb B.obs.length pe) s' := by
  refine ⟨h.wf, h.le, by rw [h.len]; simp [dropOb], fun i y q => h.val i y (drop_get q (by simp)).1, fun i q => h.bagv i (drop_get q (by simp)).1, fun i k q => ?_, fun i c q => ?_, fun i j c c' k q1 q2 => h.dst i j c c' k (drop_get q1 (by simp)).1 (drop_get q2 (by simp)).1, h.bag.cutO e, h.alt, h.tab⟩
  · obtain ⟨q1, q2⟩ := drop_get q (by simp)
    have hk := q2 k rfl
    obtain ⟨l, e1, e2⟩ := h.obv i k q1
    have e1' : (B.obs ++ [⟨n, []⟩])[k]? = some l := e1
    rw [List.getElem?_append_left hk] at e1'
    exact ⟨l, e1', e2⟩
  · obtain ⟨k, cl, q1, q2, q3, q4, q5⟩ := h.own i c (drop_get q (by simp)).1
    exact ⟨k, cl, q1, q2, q3, fun z => q4 (by rw [add_bagA]; exact List.mem_append_left _ z), q5⟩
theorem St.cutO (hn : n0 ≤ m.cells.length) (st : St (B.add m.cells.length) n0 (m.cells.length :: A) (m.push (.ins c [])) A' m') : St B n0 A m A' m' := by
  have eq : ∀ k, k < m.cells.length → (m.push (.ins c [])).cells[k]? = m.cells[k]? := fun k hk => by
    show (m.cells ++ [_])[k]? = _
    rw [List.getElem?_append_left hk]
  have le := st.le
  rw [push_len] at le
  refine ⟨by omega, fun k hk hb => ?_, fun k hk hA => ?_, fun k hk => ?_, fun k hk hk2 => st.sup k (List.mem_cons_of_mem _ hk) hk2⟩
  · rw [st.old k hk fun z => ?_]
    · exact eq k (by omega)
    · rw [add_bagC] at z
      rcases List.mem_append.mp z with z | z
      · exact hb z
      · rw [List.mem_singleton.mp z] at hk; omega
  · rw [st.fix k (by rw [push_len]; omega) fun z => ?_]
    · exact eq k hk
    · rcases List.mem_cons.mp z with z | z
      · omega
      · exact hA z
  · rcases st.sub k hk with z | z
    · rcases List.mem_cons.mp z with z | z
      · exact .inr (by omega)
      · exact .inl z
    · rw [push_len] at z
      exact .inr (by omega)
theorem Fr.cutO (f : Fr (bagC (B.add m.cells.length)) (m.push (.ins c [])) m') : Fr (bagC B) m m' := by
  have le := f.le
  rw [push_len] at le
  refine ⟨by omega, fun k hk hb => ?_⟩
  rw [f.eq k (by rw [push_len]; omega) fun z => ?_]
  · show (m.cells ++ [_])[k]? = _
    rw [List.getElem?_append_left hk]
  · rw [add_bagC] at z
    rcases List.mem_append.mp z with z | z
    · exact hb z
    · rw [List.mem_singleton.mp z] at hk; omega
theorem XR.anti {X : PEx} {X' : Ex} (hs : ∀ k ∈ A', k ∈ A) (h : XR m A X X') : XR m A' X X' := ⟨h.1, h.2.anti hs⟩
theorem VR.cutO {n : Nat} {v : PV} {w : Wd} (hv : nob v = true) (h : VR pe env (B.add n) A b0 m v w) : VR pe env B A b0 m v w := by
  cases v with
  | ob k => cases hv
  | _ => exact h
/-- what the making does before the first use -/
theorem new_run {P : PFn} {N : Fn} {n : Nat} {us : List PV} {ws : List Wd} (hF : SimF tl P N) (h : SR tl B n0 A env m pe s) (ar : ARs B A m us ws) :
    RelE (VR [] [] (B.add m.cells.length) (m.cells.length :: A)) (B.add m.cells.length) (m.cells.length :: A) (m.push (.ins c [])) (P (.ob s.obs.length :: us) (newB c s)) (N (.ref m.cells.length :: ws) (m.push (.ins c []))) := by
  have h1 := h.add (c := c)
  refine hF _ _ _ _ _ _ h1.wf h1.bag h1.alt h1.tab ⟨⟨⟨m.cells.length, []⟩, ?_, rfl⟩, ?_⟩
  · show (B.obs ++ [_])[s.obs.length]? = _
    rw [h.bag.2.len, List.getElem?_append_right (Nat.le_refl _), Nat.sub_self]
    rfl
  · have mv : ∀ k c', Has m k c' → k ∉ A → Has (m.push (.ins c [])) k c' ∧ k ∉ m.cells.length :: A := fun k c' hk hn => ⟨hk.push, fun z => by
      rcases List.mem_cons.mp z with z | z
      · have := hk.lt; omega
      · exact hn z⟩
    have key : ∀ {us : List PV} {ws : List Wd}, ARs B A m us ws → ARs (B.add m.cells.length) (m.cells.length :: A) (m.push (.ins c [])) us ws := by
      intro us
      induction us with
      | nil => intro ws a; cases ws with
        | nil => trivial
        | cons _ _ => exact a.elim
      | cons v us ih =>
        intro ws a
        cases ws with
        | nil => exact a.elim
        | cons w ws =>
          refine ⟨?_, ih a.2⟩
          have a1 := a.1
          cases v with
          | d x => exact RdA.mv mv a1
          | bag => exact a1
          | ob k => obtain ⟨l, q1, q2⟩ := a1; exact ⟨l, add_up q1, q2⟩
          | fr c => exact a1.elim
          | bo i c => exact a1.elim
    exact key ar
theorem sim_newS {i n : Nat} {P : PFn} {N : Fn} {g : Pe (List PV)} {f : Em (List Wd)} {p : Ps} {Q : Sm} (hF : SimF tl P N) (hg : SimA tl g f) (hp : SimS tl p Q) : SimS tl (pNewS i c n P g p) (sSeq (sSet i (eNew c n N f)) Q) := fun B n0 A env m pe s h => by
  have e0 : sSeq (sSet i (eNew c n N f)) Q env m = rs (f env m) env fun ws m => (rs (if ws.length + 1 = n then (N (.ref m.cells.length :: ws) (m.push (.ins c []))).bind (newR (.ref m.cells.length)) else .stuck) env fun w m => Sr.go .nx (env.set i (some w)) m).seq Q := by
    unfold sSeq sSet eNew
    rw [rs_bind]
    cases f env m <;> rfl
  rw [e0]
  refine relS_rs h (hg B n0 A env m pe s h) fun vs ws m1 s1 f1 w1 b1 r1 => ?_
  have h1 := h.step f1 w1 b1
  cases e : frzA vs with
  | none => simp only [e]; trivial
  | some us =>
    simp only [e]
    have ar := frzA_ok h.bag.sub r1 e
    by_cases hl : us.length + 1 = n
    · rw [if_pos hl, if_pos (by rw [← ar.length]; exact hl)]
      have hk : s1.obs.length = B.obs.length := h1.bag.2.len
      have key := new_run (c := c) (n := n) hF h1 ar
      have ha := h1.add (c := c)
      have xsub : ∀ k ∈ A, k ∈ m1.cells.length :: A := fun k hk => List.mem_cons_of_mem _ hk
      cases eP : P (.ob s1.obs.length :: us) (newB c s1) with
      | stuck => trivial
      | exc X s2 =>
        rw [eP] at key
        obtain ⟨X', m2, e2, f2, w2, b2, xr⟩ := key
        rw [e2]
        show RelS tl B n0 A m1 (match cutB s1.obs.length s2 with
          | some s => PS.exc X (dropOb s1.obs.length pe) s
          | none => .stuck) (.exc X' env m2)
        rw [hk]
        cases ec : cutB B.obs.length s2 with
        | none => trivial
        | some s3 =>
          have h2 := ha.step f2 w2 b2
          exact ⟨X', env, m2, _, rfl, (St.fr ha.bag.sub ha.le f2).cutO h1.le, h2.cutO ec, xr⟩
      | ok v s2 =>
        rw [eP] at key
        obtain ⟨w, m2, e2, f2, w2, b2, rv⟩ := key
        have h2 := ha.step f2 w2 b2.1
        rw [e2]
        cases v with
        | d y =>
          cases y with
          | none =>
            have ew : w = .d .none := RdA.flat (show RdA m2 _ w .none from rv) rfl
            subst ew
            simp only [Rs.bind_ok, newR, rs_ok, Sr.seq]
            have e1 : (B.add m1.cells.length).obs[s1.obs.length]? = some ⟨m1.cells.length, []⟩ := by
              show (B.obs ++ [_])[s1.obs.length]? = _
              rw [hk, List.getElem?_append_right (Nat.le_refl _), Nat.sub_self]
              rfl
            have h3 := h2.setOb (i := i) e1
            have st0 := (St.fr ha.bag.sub ha.le f2)
            have q := hp _ n0 _ _ m2 _ s2 h3
            rw [hk] at q ⊢
            cases er : p (pe.set i (.ob B.obs.length)) s2 with
            | stuck => trivial
            | exc X pe4 s4 =>
              rw [er] at q
              obtain ⟨X', env4, m4, A4, e4, st4, r4, xr⟩ := q
              rw [e4]
              show RelS tl B n0 A m1 (match cutB B.obs.length s4 with
                | some s => PS.exc X (dropOb B.obs.length pe4) s
                | none => .stuck) _
              cases ec : cutB B.obs.length s4 with
              | none => trivial
              | some s5 => exact ⟨X', env4, m4, A4, rfl, (st0.trans st4).cutO h1.le, r4.cutO ec, xr⟩
            | go fl pe4 s4 =>
              rw [er] at q
              obtain ⟨fl', env4, m4, A4, e4, st4, r4⟩ := q
              rw [e4]
              show RelS tl B n0 A m1 (match cutB B.obs.length s4 with
                | some s => if flOk fl = true then PS.go fl (dropOb B.obs.length pe4) s else .stuck
                | none => .stuck) _
              cases ec : cutB B.obs.length s4 with
              | none => trivial
              | some s5 =>
                simp only []
                by_cases hfl : flOk fl = true
                · rw [if_pos hfl]
                  refine ⟨fl', env4, m4, A4, rfl, (st0.trans st4).cutO h1.le, ?_⟩
                  cases fl with
                  | nx => cases fl' with
                    | nx => exact r4.cutO ec
                    | _ => exact r4.elim
                  | bk => cases fl' with
                    | bk => exact r4.cutO ec
                    | _ => exact r4.elim
                  | ct => cases fl' with
                    | ct => exact r4.cutO ec
                    | _ => exact r4.elim
                  | rt v => cases fl' with
                    | rt w => exact ⟨r4.1, ⟨r4.2.1.1.cutO ec, r4.2.1.2.cutO ec⟩, r4.2.2.cutO hfl⟩
                    | _ => exact r4.elim
                · rw [if_neg hfl]; trivial
          | _ => trivial
        | _ => trivial
    · rw [if_neg hl]; trivial
end
end PD
set_option Elab.async false
set_option linter.all false
set_option maxRecDepth 100000
set_option maxHeartbeats 2000000
namespace PD
open PySem PySem.Spec PyProof.Rows L2 DL
def pLf (x : PEx) (f : Str) : Pe PV := fun _ s => match x.fs.lookup f with
  | some d => if flatD d = true then .ok (.d d) s else .stuck
  | none => .stuck
def hRunP (c : Str) (b : PEx → Ps) : PEx → Ps := fun x e s => if x.cls = c then b x e s else .stuck
def FlatX (x : PEx) (x' : Ex) : Prop := ∀ f d, flatD d = true → x.fs.lookup f = some d → x'.fs.lookup f = some (.d d) ∧ okD d = true
def pSplit (ga gb : Pe PV) : Pe PV := fun e s => (ga e s).bind fun a s => match a with
  | .d (.str a) => (gb e s).bind fun b s => match b with
    | .d (.str b) => if b.length ≠ 0 ∧ a.length + 2 ≤ LIM then .ok (.fr (.l ((Txt.split a b).map .str))) s else .stuck
    | _ => .stuck
  | _ => .stuck
def pIntA (vs : List PV) : Option PV := match vs with
  | [.d (.str a)] => if a.length ≤ 640 then (PySem.intText? a).map fun n => .d (.int n) else none
  | vs => pInt1 vs
section
variable {tl : List (Str × Str)} {B : Lo} {n0 b0 b1 : Nat} {A A' A2 : List Nat} {env env0 : DL.Env} {m m' m1 m2 : Mm} {pe pe0 : PEnv} {s s' : Bg} {ga gb : Pe PV} {fa fb : Em Wd} {c f : Str}
theorem sim_lf {x : PEx} {x' : Ex} (h : FlatX x x') : SimE tl (pLf x f) (eLf x' f) := fun B n0 A env m pe s hs => by
  unfold pLf eLf
  cases e : x.fs.lookup f with
  | none => trivial
  | some d =>
    simp only []
    by_cases hd : flatD d = true
    · rw [if_pos hd]
      obtain ⟨h1, h2⟩ := h f d hd e
      rw [h1]
      exact relE_of hs (.inl rfl) (.d h2)
    · rw [if_neg hd]; trivial
theorem sim_hx {g : PEx → Ps} {b : Ex → Sm} (h : ∀ x x', FlatX x x' → SimS tl (g x) (b x')) : SimX tl (hRunP c g) (hRun c b) := fun B n0 A env m pe s x x' hs xr => by
  unfold hRunP hRun
  rw [xr.1]
  by_cases hc : x.cls = c
  · rw [if_pos hc, if_pos hc]
    refine h x x' (fun f d hd e => ?_) B n0 A env m pe s hs
    obtain ⟨w, q1, q2⟩ := RdfA.look xr.2 e
    have := q2.flat hd
    subst this
    refine ⟨q1, ?_⟩
    cases q2 with
    | d h => exact h
  · rw [if_neg hc]; trivial
theorem rds_txts : ∀ (l : List Str), RdsA m A (l.map fun s => .d (.str s)) (l.map .str)
  | [] => .nil
  | _ :: r => .cons (.d rfl) (rds_txts r)
theorem sim_Split (ha : SimE tl ga fa) (hb : SimE tl gb fb) : SimE tl (pSplit ga gb) (eSplit fa fb) := fun B n0 A env m pe s h =>
  (ha B n0 A env m pe s h).bind baseV fun a wa m1 s1 f1 w1 b1 r1 => by
    have h1 := h.step f1 w1 b1
    split
    · rename_i x
      have ew : wa = .d (.str x) := RdA.flat (show RdA m1 A wa (.str x) from r1) rfl
      subst ew
      refine (hb B n0 A env m1 pe s1 h1).bind baseV fun b wb m2 s2 f2 w2 b2 r2 => ?_
      have h2 := h1.step f2 w2 b2
      split
      · rename_i y
        have ew : wb = .d (.str y) := RdA.flat (show RdA m2 A wb (.str y) from r2) rfl
        subst ew
        unfold splR
        simp only []
        by_cases hl : y.length ≠ 0 ∧ x.length + 2 ≤ LIM
        · rw [if_pos hl, if_pos hl]
          have rr : RdC m2 A (.lst ((Txt.split x y).map fun s => .d (.str s))) (.l ((Txt.split x y).map .str)) := rds_txts _
          exact relE_of h2 (nx_new rr) (fr_new h2 rr (Nat.le_refl _))
        · rw [if_neg hl]; trivial
      · trivial
    · trivial
theorem op_intA : OpNOk intOA pIntA := fun {tl B n0 A env m pe s vs ws v} h r e => by
  unfold pIntA at e
  split at e
  · rename_i a
    obtain ⟨w, q, r1⟩ := vrs1 h.bag.sub r
    subst q
    have ew : w = .d (.str a) := RdA.flat (show RdA m A w (.str a) from r1) rfl
    subst ew
    split at e
    · rename_i hl
      obtain ⟨n, e1, e2⟩ := Option.map_eq_some_iff.mp e
      subst e2
      refine op_d (x := .int n) (w := .d (.int n)) _ ?_ (.d rfl)
      unfold intOA
      simp only [if_pos hl, e1]
      rfl
    · cases e
  · rename_i hne
    obtain ⟨w, m', q1, q2, q3⟩ := op_int1 h r e
    refine ⟨w, m', ?_, q2, q3⟩
    unfold intOA
    split
    · rename_i a
      exfalso
      unfold intO1 at q1
      cases q1
    · exact q1
theorem sim_cut {i : Nat} {js : List Nat} {p : Ps} {f : Em Wd} {g : Em (List Wd)} {Q : Sm} (hg : (∀ env m w, g (List.set env i w) m = g env m) ∧ ∀ env m x m1, g env m ≠ .exc x m1) (h : SimS tl p (sSeq (sSet i f) (sSeq (sPar js g) Q))) : SimS tl p (sSeq (sPar (i :: js) (aC f g)) Q) := by
  rw [sPar_cut hg.1 hg.2, sSeq_assoc]
  exact h
end
end PD
set_option Elab.async false
set_option linter.all false
set_option maxRecDepth 100000
set_option maxHeartbeats 2000000
namespace Hn
open PySem PySem.Spec PyProof.Rows L2 DL PD
noncomputable section
/-- _law_take(bag, many): 0=bag 1=many 2=cell 3=stirred 4=value 5=begin 6=second -/
def q__law_take : Ps :=
pSeq (pIfS (b2P pEq (pBagIx 0 0) (pC (.int 0)))
(pSeq (pSetF 2 (p2 pIx (p2 pAdd (pBagCut 0 (pBagIx 0 2)) (pN pLst (paC (pC (.int 0)) paN))) (pC (.int 0)))) <|
pSeq (pBagAug 0 2 (pC (.int 1))) <|
pSeq (pIfS (b2P pGe (pV 2) (p2 pPow (pC (.int 10)) (pC (.int 18))))
(pBagSet 0 0 (pV 2))
(pNop)) <|
pSeq (pSetF 3 (p2 pAdd (p2 pAdd (p2 pMul (pBagIx 0 1) (pC (.int 48271))) (p2 pMod (pN pInt1 (paC (pV 2) paN)) (pC (.int 2147483647)))) (p2 pMul (pC (.int 7919)) (pBagIx 0 2)))) <|
pBagSet 0 1 (p2 pMod (pN pInt1 (paC (pV 3) paN)) (pC (.int 2147483647))))
(pNop)) <|
pSeq (pIfS (b2P pGt (pBagIx 0 0) (pC (.int 0)))
(pSeq (pSetF 4 (p2 pMod (pN pInt1 (paC (pBagIx 0 0) paN)) (pV 1))) <|
pSeq (pBagSet 0 0 (p2 pFdiv (pN pInt1 (paC (pBagIx 0 0) paN)) (pV 1))) <|
pRet (pV 4))
(pNop)) <|
pSeq (pSetF 5 (p2 pMod (pN pInt1 (paC (p2 pMul (p2 pAdd (pBagIx 0 1) (pC (.int 1))) (pC (.int 39373))) paN)) (pC (.int 1000000007)))) <|
pSeq (pSetF 6 (p2 pMod (pN pInt1 (paC (p2 pMul (p2 pMod (pN pInt1 (paC (p2 pMul (pV 5) (pV 5)) paN)) (pC (.int 998244353))) (pC (.int 30011))) paN)) (pC (.int 998244353)))) <|
pRet (p2 pMod (pN pInt1 (paC (p2 pFdiv (pV 6) (pC (.int 7))) paN)) (pV 1))
@[irreducible] def P__law_take : PFn := runP 7 q__law_take
/-- _law_some(bag, things): 0=bag 1=things -/
def q__law_some : Ps :=
pRet (p2 pIx (pV 1) (pCall 2 P__law_take (paC (pV 0) (paC (pN pLen (paC (pV 1) paN)) paN))))
@[irreducible] def P__law_some : PFn := runP 2 q__law_some
/-- _law_alike(found, due): 0=found 1=due 2=pairs 3=at 4=one 5=other -/
def q__law_alike : Ps :=
pSeq (pPar [2, 3] [true, false] (paC (pN pLst (paC (pN pTup (paC (pV 0) (paC (pV 1) paN))) paN)) (paC (pC (.int 0)) paN))) <|
pSeq (pWh (b2P pLt (pV 3) (pN pLen (paC (pV 2) paN)))
(pSeq (pAsg (.tup [.name 4, .name 5]) (p2 pIx (pV 2) (pV 3))) <|
pSeq (pAug 3 pIadd (pC (.int 1))) <|
pSeq (pIfS (bOrP (b2P pNe (p1 (pIsi ["bool"]) (pV 4)) (p1 (pIsi ["bool"]) (pV 5))) (b2P pNe (p1 (pIsi ["str"]) (pV 4)) (p1 (pIsi ["str"]) (pV 5))))
(pRet (pC (.bool false)))
(pNop)) <|
pSeq (pIfS (b2P pNe (p1 (pIsi ["tuple", "list"]) (pV 4)) (p1 (pIsi ["tuple", "list"]) (pV 5)))
(pRet (pC (.bool false)))
(pNop)) <|
pIfS (bVP (p1 (pIsi ["tuple", "list"]) (pV 4)))
(pSeq (pIfS (bOrP (b2P pNe (p1 (pIsi ["tuple"]) (pV 4)) (p1 (pIsi ["tuple"]) (pV 5))) (b2P pNe (pN pLen (paC (pV 4) paN)) (pN pLen (paC (pV 5) paN))))
(pRet (pC (.bool false)))
(pNop)) <|
pExt 2 (paC (pN pLz (paC (pV 4) (paC (pV 5) paN))) paN))
(pIfS (b2P pNe (pV 4) (pV 5))
(pRet (pC (.bool false)))
(pNop)))) <|
pRet (pC (.bool true))
@[irreducible] def P__law_alike : PFn := runP 6 q__law_alike
end
theorem sf__law_take {tl : List (Str × Str)} : SimF tl P__law_take N__law_take := by
  unfold P__law_take N__law_take
  exact sim_run ((sim_seq (sim_if (sim_b2 op_eq (sim_bagIx rfl) (sim_C rfl))
(sim_seq (sim_setF (sim_2 op_ix (sim_2 op_add (sim_bagCut (sim_bagIx rfl)) (sim_N op_lst (sim_aC (sim_C rfl) sim_aN))) (sim_C rfl))) <|
(sim_seq (sim_bagAug rfl (sim_C rfl)) <|
(sim_seq (sim_if (sim_b2 op_ge sim_V (sim_2 op_pow (sim_C rfl) (sim_C rfl)))
(sim_bagSet rfl sim_V)
sim_nop) <|
(sim_seq (sim_setF (sim_2 op_add (sim_2 op_add (sim_2 op_mul (sim_bagIx rfl) (sim_C rfl)) (sim_2 op_mod (sim_N op_int1 (sim_aC sim_V sim_aN)) (sim_C rfl))) (sim_2 op_mul (sim_C rfl) (sim_bagIx rfl)))) <|
(sim_bagSet rfl (sim_2 op_mod (sim_N op_int1 (sim_aC sim_V sim_aN)) (sim_C rfl)))))))
sim_nop) <|
(sim_seq (sim_if (sim_b2 op_gt (sim_bagIx rfl) (sim_C rfl))
(sim_seq (sim_setF (sim_2 op_mod (sim_N op_int1 (sim_aC (sim_bagIx rfl) sim_aN)) sim_V)) <|
(sim_seq (sim_bagSet rfl (sim_2 op_fdiv (sim_N op_int1 (sim_aC (sim_bagIx rfl) sim_aN)) sim_V)) <|
(sim_ret sim_V)))
sim_nop) <|
(sim_seq (sim_setF (sim_2 op_mod (sim_N op_int1 (sim_aC (sim_2 op_mul (sim_2 op_add (sim_bagIx rfl) (sim_C rfl)) (sim_C rfl)) sim_aN)) (sim_C rfl))) <|
(sim_seq (sim_setF (sim_2 op_mod (sim_N op_int1 (sim_aC (sim_2 op_mul (sim_2 op_mod (sim_N op_int1 (sim_aC (sim_2 op_mul sim_V sim_V) sim_aN)) (sim_C rfl)) (sim_C rfl)) sim_aN)) (sim_C rfl))) <|
(sim_ret (sim_2 op_mod (sim_N op_int1 (sim_aC (sim_2 op_fdiv sim_V (sim_C rfl)) sim_aN)) sim_V)))))))
theorem sf__law_some {tl : List (Str × Str)} : SimF tl P__law_some N__law_some := by
  unfold P__law_some N__law_some
  exact sim_run ((sim_ret (sim_2 op_ix sim_V (sim_call (sf__law_take) (sim_aC sim_V (sim_aC (sim_N op_len (sim_aC sim_V sim_aN)) sim_aN))))))
theorem sf__law_alike {tl : List (Str × Str)} : SimF tl P__law_alike N__law_alike := by
  unfold P__law_alike N__law_alike
  exact sim_run ((sim_seq (sim_par (sim_aC (sim_N op_lst (sim_aC (sim_N op_tup (sim_aC sim_V (sim_aC sim_V sim_aN))) sim_aN)) (sim_aC (sim_C rfl) sim_aN))) <|
(sim_seq (sim_wh (sim_b2 op_lt sim_V (sim_N op_len (sim_aC sim_V sim_aN)))
(sim_seq (sim_asg (sim_2 op_ix sim_V sim_V)) <|
(sim_seq (sim_aug op_iadd (sim_C rfl)) <|
(sim_seq (sim_if (sim_bOr (sim_b2 op_ne (sim_1 op_isi sim_V) (sim_1 op_isi sim_V)) (sim_b2 op_ne (sim_1 op_isi sim_V) (sim_1 op_isi sim_V)))
(sim_ret (sim_C rfl))
sim_nop) <|
(sim_seq (sim_if (sim_b2 op_ne (sim_1 op_isi sim_V) (sim_1 op_isi sim_V))
(sim_ret (sim_C rfl))
sim_nop) <|
(sim_if (sim_bV (sim_1 op_isi sim_V))
(sim_seq (sim_if (sim_bOr (sim_b2 op_ne (sim_1 op_isi sim_V) (sim_1 op_isi sim_V)) (sim_b2 op_ne (sim_N op_len (sim_aC sim_V sim_aN)) (sim_N op_len (sim_aC sim_V sim_aN))))
(sim_ret (sim_C rfl))
sim_nop) <|
(sim_ext (sim_aC (sim_N op_lz (sim_aC sim_V (sim_aC sim_V sim_aN))) sim_aN)))
(sim_if (sim_b2 op_ne sim_V sim_V)
(sim_ret (sim_C rfl))
sim_nop))))))) <|
(sim_ret (sim_C rfl)))))
end Hn
set_option Elab.async false
set_option linter.all false
set_option maxRecDepth 100000
set_option maxHeartbeats 2000000
namespace Hs
open PySem PySem.Spec PyProof.Rows L2 DL PD Hn
end Hs
set_option Elab.async false
set_option linter.all false
set_option maxRecDepth 100000
set_option maxHeartbeats 2000000
namespace PD
open PySem PySem.Spec PyProof.Rows L2 DL
def slV (i : Nat) : Option Sl → Option PV
  | some (.d x) => some (.d x)
  | some (.own c) => some (.bo i c)
  | some .bag => some .bag
  | some (.ob k) => some (.ob k)
  | _ => none
def slD : Option Sl → Option PyData
  | some (.d x) => some x
  | _ => none
def slL : Option Sl → Option (List PyData)
  | some (.own (.l xs)) => some xs
  | _ => none
def wE {α : Type} (r : PR α) (Q : α → Bg → Prop) (X : PEx → Bg → Prop) : Prop := match r with
  | .ok v s => Q v s
  | .exc x s => X x s
  | .stuck => False
def wO {α : Type} (o : Option α) (Q : α → Prop) : Prop := match o with
  | some v => Q v
  | none => False
def wS (r : PS) (K : PEnv → Bg → Prop) (Q : PFl → PEnv → Bg → Prop) (X : PEx → PEnv → Bg → Prop) : Prop := match r with
  | .go .nx e s => K e s
  | .go f e s => Q f e s
  | .exc x e s => X x e s
  | .stuck => False
section
variable {α β : Type} {e : PEnv} {s : Bg} {X : PEx → Bg → Prop} {XS : PEx → PEnv → Bg → Prop} {K : PEnv → Bg → Prop} {QS : PFl → PEnv → Bg → Prop} {Q : PV → Bg → Prop} {QB : Bool → Bg → Prop} {ga gb gc : Pe PV} {c c' : Pe Bool} {f g : Ps}
theorem wE_ok {a : α} {Q : α → Bg → Prop} : wE (.ok a s) Q X ↔ Q a s := Iff.rfl
theorem wE_bind {r : PR α} {k : α → Bg → PR β} {Q : β → Bg → Prop} : wE (r.bind k) Q X ↔ wE r (fun a s => wE (k a s) Q X) X := by cases r <;> exact Iff.rfl
theorem wE_of {o : Option α} {Q : α → Bg → Prop} : wE (PR.of o s) Q X ↔ wO o fun v => Q v s := by cases o <;> exact Iff.rfl
theorem wO_some {a : α} {Q : α → Prop} : wO (some a) Q ↔ Q a := Iff.rfl
theorem wO_none {Q : α → Prop} : wO none Q ↔ False := Iff.rfl
theorem wE_mono {r : PR α} {Q Q' : α → Bg → Prop} {X' : PEx → Bg → Prop} (h : wE r Q X) (i : ∀ a s, Q a s → Q' a s) (j : ∀ x s, X x s → X' x s) : wE r Q' X' := by
  cases r with
  | ok a s => exact i a s h
  | exc x s => exact j x s h
  | stuck => exact h.elim
theorem wS_mono {r : PS} {K K' : PEnv → Bg → Prop} {Q Q' : PFl → PEnv → Bg → Prop} {X' : PEx → PEnv → Bg → Prop} (h : wS r K Q XS) (i : ∀ e s, K e s → K' e s) (j : ∀ f e s, Q f e s → Q' f e s) (k : ∀ x e s, XS x e s → X' x e s) : wS r K' Q' X' := by
  cases r with
  | go f e s => cases f <;> first | exact i _ _ h | exact j _ _ _ h
  | exc x e s => exact k _ _ _ h
  | stuck => exact h.elim
theorem w_C {x : PyData} : wE (pC x e s) Q X ↔ Q (.d x) s := Iff.rfl
theorem w_V {i : Nat} : wE (pV i e s) Q X ↔ wO (slV i e[i]?) fun v => Q v s := by
  unfold pV
  cases e[i]? with
  | none => exact Iff.rfl
  | some sl => cases sl <;> exact Iff.rfl
theorem w_1 {p : PV → Option PV} : wE (p1 p ga e s) Q X ↔ wE (ga e s) (fun a s => wO (p a) fun v => Q v s) X := by unfold p1; simp only [wE_bind, wE_of]
theorem w_2 {p : PV → PV → Option PV} : wE (p2 p ga gb e s) Q X ↔ wE (ga e s) (fun a s => wE (gb e s) (fun b s => wO (p a b) fun v => Q v s) X) X := by unfold p2; simp only [wE_bind, wE_of]
theorem w_N {p : List PV → Option PV} {g : Pe (List PV)} : wE (pN p g e s) Q X ↔ wE (g e s) (fun a s => wO (p a) fun v => Q v s) X := by unfold pN; simp only [wE_bind, wE_of]
theorem w_aN {Q : List PV → Bg → Prop} : wE (paN e s) Q X ↔ Q [] s := Iff.rfl
theorem w_aC {r : Pe (List PV)} {Q : List PV → Bg → Prop} : wE (paC ga r e s) Q X ↔ wE (ga e s) (fun v s => wE (r e s) (fun vs s => Q (v :: vs) s) X) X := by unfold paC; simp only [wE_bind, wE_ok]
theorem w_aS {r : Pe (List PV)} {Q : List PV → Bg → Prop} : wE (paS ga r e s) Q X ↔ wE (ga e s) (fun v s => wO (seqP v) fun xs => wE (r e s) (fun vs s => Q (xs.map .d ++ vs) s) X) X := by
  unfold paS
  rw [wE_bind]
  constructor <;> refine fun h => wE_mono h (fun v s h => ?_) (fun _ _ h => h)
  · cases q : seqP v with
    | none => rw [q] at h; exact h.elim
    | some xs => rw [q] at h; simp only [wE_bind, wE_ok] at h; exact h
  · cases q : seqP v with
    | none => rw [q] at h; exact h.elim
    | some xs => rw [q] at h; simp only [wE_bind, wE_ok]; exact h
theorem w_call {n : Nat} {P : PFn} {g : Pe (List PV)} : wE (pCall n P g e s) Q X ↔ wE (g e s) (fun vs s => wO (frzA vs) fun us => us.length = n ∧ wE (P us s) Q X) X := by
  unfold pCall
  rw [wE_bind]
  constructor <;> refine fun h => wE_mono h (fun v s h => ?_) (fun _ _ h => h)
  · cases q : frzA v with
    | none => rw [q] at h; exact h.elim
    | some us =>
      rw [q] at h
      simp only [] at h
      by_cases hn : us.length = n
      · rw [if_pos hn] at h; exact ⟨hn, h⟩
      · rw [if_neg hn] at h; exact h.elim
  · cases q : frzA v with
    | none => rw [q] at h; exact h.elim
    | some us =>
      rw [q] at h
      simp only []
      rw [if_pos h.1]; exact h.2
theorem w_b2 {p : PV → PV → Option PV} : wE (b2P p ga gb e s) QB X ↔ wE (ga e s) (fun a s => wE (gb e s) (fun b s => wO (p a b) fun v => wO (boolP v) fun k => QB k s) X) X := by unfold b2P; simp only [wE_bind, wE_of, w_2]
theorem w_bV : wE (bVP ga e s) QB X ↔ wE (ga e s) (fun a s => wO (truP a) fun k => QB k s) X := by unfold bVP; simp only [wE_bind, wE_of]
theorem w_bAnd : wE (bAndP c c' e s) QB X ↔ wE (c e s) (fun b s => if b = true then wE (c' e s) QB X else QB false s) X := by
  unfold bAndP
  rw [wE_bind]
  constructor <;> refine fun h => wE_mono h (fun v s h => ?_) (fun _ _ h => h) <;> (cases v <;> exact h)
theorem w_bOr : wE (bOrP c c' e s) QB X ↔ wE (c e s) (fun b s => if b = true then QB true s else wE (c' e s) QB X) X := by
  unfold bOrP
  rw [wE_bind]
  constructor <;> refine fun h => wE_mono h (fun v s h => ?_) (fun _ _ h => h) <;> (cases v <;> exact h)
theorem w_bNot : wE (bNotP c e s) QB X ↔ wE (c e s) (fun b s => QB (!b) s) X := by unfold bNotP; rw [wE_bind]; exact Iff.rfl
theorem w_bTrue : wE (bTrueP e s) QB X ↔ QB true s := Iff.rfl
theorem w_If : wE (pIf c ga gb e s) Q X ↔ wE (c e s) (fun b s => if b = true then wE (ga e s) Q X else wE (gb e s) Q X) X := by
  unfold pIf
  rw [wE_bind]
  constructor <;> refine fun h => wE_mono h (fun v s h => ?_) (fun _ _ h => h) <;> (cases v <;> exact h)
theorem w_And : wE (pAndE ga gb e s) Q X ↔ wE (ga e s) (fun v s => wO (truP v) fun k => if k = true then wE (gb e s) Q X else Q v s) X := by
  unfold pAndE
  rw [wE_bind]
  constructor <;> refine fun h => wE_mono h (fun v s h => ?_) (fun _ _ h => h)
  · cases q : truP v with
    | none => rw [q] at h; exact h.elim
    | some k => rw [q] at h; cases k <;> exact h
  · cases q : truP v with
    | none => rw [q] at h; exact h.elim
    | some k => rw [q] at h; cases k <;> exact h
theorem w_Or : wE (pOrE ga gb e s) Q X ↔ wE (ga e s) (fun v s => wO (truP v) fun k => if k = true then Q v s else wE (gb e s) Q X) X := by
  unfold pOrE
  rw [wE_bind]
  constructor <;> refine fun h => wE_mono h (fun v s h => ?_) (fun _ _ h => h)
  · cases q : truP v with
    | none => rw [q] at h; exact h.elim
    | some k => rw [q] at h; cases k <;> exact h
  · cases q : truP v with
    | none => rw [q] at h; exact h.elim
    | some k => rw [q] at h; cases k <;> exact h
theorem w_Not : wE (pNotE ga e s) Q X ↔ wE (ga e s) (fun v s => wO (truP v) fun k => Q (.d (.bool !k)) s) X := by
  unfold pNotE
  rw [wE_bind]
  constructor <;> refine fun h => wE_mono h (fun v s h => ?_) (fun _ _ h => h)
  · cases q : truP v with
    | none => rw [q] at h; exact h.elim
    | some k => rw [q] at h; exact h
  · cases q : truP v with
    | none => rw [q] at h; exact h.elim
    | some k => rw [q] at h; exact h
theorem w_Ch {p p' : PV → PV → Option PV} : wE (pCh p p' ga gb gc e s) Q X ↔ wE (ga e s) (fun a s => wE (gb e s) (fun b s => wO (p a b) fun z => wO (boolP z) fun k => if k = true then wE (gc e s) (fun c s => wO (p' b c) fun v => Q v s) X else Q (.d (.bool false)) s) X) X := by
  unfold pCh
  simp only [wE_bind, wE_of]
  constructor <;> refine fun h => wE_mono h (fun a s h => wE_mono h (fun b s h => ?_) (fun _ _ h => h)) (fun _ _ h => h)
  · cases q : p a b with
    | none => rw [q] at h; exact h.elim
    | some z =>
      rw [q] at h
      simp only [wO_some] at h ⊢
      cases q2 : boolP z with
      | none => rw [q2] at h; exact h.elim
      | some k =>
        rw [q2] at h
        cases k with
        | false => exact h
        | true =>
          have h' : wE ((gc e s).bind fun c s => PR.of (p' b c) s) Q X := h
          simp only [wE_bind, wE_of] at h'
          exact h'
  · cases q : p a b with
    | none => rw [q] at h; exact h.elim
    | some z =>
      rw [q] at h
      simp only [wO_some] at h ⊢
      cases q2 : boolP z with
      | none => rw [q2] at h; exact h.elim
      | some k =>
        rw [q2] at h
        cases k with
        | false => exact h
        | true =>
          show wE ((gc e s).bind fun c s => PR.of (p' b c) s) Q X
          simp only [wE_bind, wE_of]
          exact h
theorem w_bCh {p p' : PV → PV → Option PV} : wE (bChP p p' ga gb gc e s) QB X ↔ wE (pCh p p' ga gb gc e s) (fun w s => wO (boolP w) fun k => QB k s) X := by unfold bChP; simp only [wE_bind, wE_of]
theorem w_oN {Q : Option Int → Bg → Prop} : wE (oNoneP e s) Q X ↔ Q none s := Iff.rfl
def intV : PV → Option Int
  | .d (.int i) => some i
  | _ => none
theorem w_oS {Q : Option Int → Bg → Prop} : wE (oSomeP ga e s) Q X ↔ wE (ga e s) (fun v s => wO (intV v) fun i => Q (some i) s) X := by
  unfold oSomeP
  rw [wE_bind]
  have key : ∀ v s, wE (match v with | .d (.int i) => PR.ok (some i) s | _ => (PR.stuck : PR (Option Int))) Q X ↔ wO (intV v) fun i => Q (some i) s := fun v s => by
    cases v with
    | d x => cases x <;> exact Iff.rfl
    | _ => exact Iff.rfl
  constructor <;> refine fun h => wE_mono h (fun v s h => ?_) (fun _ _ h => h)
  · exact (key v s).mp h
  · exact (key v s).mpr h
theorem w_Sl {lo hi : Pe (Option Int)} : wE (pSl ga lo hi e s) Q X ↔ wE (ga e s) (fun v s => wE (lo e s) (fun l s => wE (hi e s) (fun h s => wO (pCut v l h) fun w => Q w s) X) X) X := by unfold pSl; simp only [wE_bind, wE_of]
theorem w_Rv : wE (pRv ga e s) Q X ↔ wE (ga e s) (fun v s => wO (revP v) fun w => Q w s) X := by unfold pRv; simp only [wE_bind, wE_of]
def strV : PV → Option Str
  | .d (.str i) => some i
  | _ => none
theorem w_Join : wE (pJoin ga gb e s) Q X ↔ wE (ga e s) (fun v s => wO (strV v) fun a => wE (gb e s) (fun y s => wO (joinP a y) fun w => Q w s) X) X := by
  unfold pJoin
  rw [wE_bind]
  have key : ∀ v s, wE (match v with | .d (.str a) => (gb e s).bind fun y s => PR.of (joinP a y) s | _ => (PR.stuck : PR PV)) Q X ↔ wO (strV v) fun a => wE (gb e s) (fun y s => wO (joinP a y) fun w => Q w s) X := fun v s => by
    cases v with
    | d x =>
      cases x with
      | str a =>
        show wE ((gb e s).bind fun y s => PR.of (joinP a y) s) Q X ↔ _
        simp only [wE_bind, wE_of]
        exact Iff.rfl
      | _ => exact Iff.rfl
    | _ => exact Iff.rfl
  constructor <;> refine fun h => wE_mono h (fun v s h => ?_) (fun _ _ h => h)
  · exact (key v s).mp h
  · exact (key v s).mpr h
theorem w_Lc {g : Pe PIt} {t : Tg} {own : List Nat} : wE (pLc g t c ga own e s) Q X ↔ wE (g e s) (fun p s => wE (plcL t c ga (forgetP own e) p.xs [] s) (fun xs s => Q (.fr (.l xs)) s) (fun _ _ => False)) X := by
  unfold pLc
  rw [wE_bind]
  constructor <;> refine fun h => wE_mono h (fun p s h => ?_) (fun _ _ h => h)
  · cases q : plcL t c ga (forgetP own e) p.xs [] s with
    | ok xs s => rw [q] at h; exact h
    | exc _ _ => rw [q] at h; exact h.elim
    | stuck => rw [q] at h; exact h.elim
  · cases q : plcL t c ga (forgetP own e) p.xs [] s with
    | ok xs s => rw [q] at h; exact h
    | exc _ _ => rw [q] at h; exact h.elim
    | stuck => rw [q] at h; exact h.elim
theorem w_iV {Q : PIt → Bg → Prop} : wE (piV ga e s) Q X ↔ wE (ga e s) (fun v s => wO (itP v) fun p => Q p s) X := by unfold piV; simp only [wE_bind, wE_of]
theorem w_iR1 {g : Pe (List PV)} {Q : PIt → Bg → Prop} : wE (piR1 g e s) Q X ↔ wE (g e s) (fun v s => wO (ran1P v) fun p => Q p s) X := by unfold piR1; simp only [wE_bind, wE_of]
theorem w_iR2 {g : Pe (List PV)} {Q : PIt → Bg → Prop} : wE (piR2 g e s) Q X ↔ wE (g e s) (fun v s => wO (ran2P v) fun p => Q p s) X := by unfold piR2; simp only [wE_bind, wE_of]
theorem wS_prs {r : PR α} {k : α → Bg → PS} : wS (prs r e k) K QS XS ↔ wE r (fun a s => wS (k a s) K QS XS) (fun x s => XS x e s) := by cases r <;> exact Iff.rfl
theorem w_seq : wS (pSeq f g e s) K QS XS ↔ wS (f e s) (fun e s => wS (g e s) K QS XS) QS XS := by
  unfold pSeq
  cases f e s with
  | go fl e1 s1 => cases fl <;> exact Iff.rfl
  | exc _ _ _ => exact Iff.rfl
  | stuck => exact Iff.rfl
theorem w_nop : wS (pNop e s) K QS XS ↔ K e s := Iff.rfl
theorem w_drop : wS (pDrop ga e s) K QS XS ↔ wE (ga e s) (fun _ s => K e s) (fun x s => XS x e s) := by unfold pDrop; rw [wS_prs]; exact Iff.rfl
theorem w_ret : wS (pRet ga e s) K QS XS ↔ wE (ga e s) (fun v s => wO (retV v) fun v => QS (.rt v) e s) (fun x s => XS x e s) := by
  unfold pRet
  rw [wS_prs]
  constructor <;> refine fun h => wE_mono h (fun v s h => ?_) (fun _ _ h => h)
  · cases q : retV v with
    | none => rw [q] at h; exact h.elim
    | some v => rw [q] at h; exact h
  · cases q : retV v with
    | none => rw [q] at h; exact h.elim
    | some v => rw [q] at h; exact h
theorem w_retN : wS (pRetN e s) K QS XS ↔ QS (.rt (.d .none)) e s := Iff.rfl
theorem w_bk : wS (pBk e s) K QS XS ↔ QS .bk e s := Iff.rfl
theorem w_ct : wS (pCt e s) K QS XS ↔ QS .ct e s := Iff.rfl
theorem w_ifS : wS (pIfS c f g e s) K QS XS ↔ wE (c e s) (fun b s => if b = true then wS (f e s) K QS XS else wS (g e s) K QS XS) (fun x s => XS x e s) := by
  unfold pIfS
  rw [wS_prs]
  constructor <;> refine fun h => wE_mono h (fun v s h => ?_) (fun _ _ h => h) <;> (cases v <;> exact h)
theorem w_set {i : Nat} : wS (pSet i ga e s) K QS XS ↔ wE (ga e s) (fun v s => wO (setV i v e) fun e => K e s) (fun x s => XS x e s) := by
  unfold pSet
  rw [wS_prs]
  constructor <;> refine fun h => wE_mono h (fun v s h => ?_) (fun _ _ h => h)
  · cases q : setV i v e with
    | none => rw [q] at h; exact h.elim
    | some v => rw [q] at h; exact h
  · cases q : setV i v e with
    | none => rw [q] at h; exact h.elim
    | some v => rw [q] at h; exact h
theorem w_setF {i : Nat} : wS (pSetF i ga e s) K QS XS ↔ wE (ga e s) (fun v s => wO (frz v) fun x => K (e.set i (.d x)) s) (fun x s => XS x e s) := by
  unfold pSetF setF
  rw [wS_prs]
  constructor <;> refine fun h => wE_mono h (fun v s h => ?_) (fun _ _ h => h)
  · cases q : frz v with
    | none => rw [q] at h; exact h.elim
    | some v => rw [q] at h; exact h
  · cases q : frz v with
    | none => rw [q] at h; exact h.elim
    | some v => rw [q] at h; exact h
theorem w_fz {j : Nat} : wS (pFz j g e s) K QS XS ↔ wS (match e[j]? with | some (.own c) => g (e.set j (.d c.toD)) s | _ => g e s) K QS XS := Iff.rfl
theorem w_asg {t : Tg} : wS (pAsg t ga e s) K QS XS ↔ wE (ga e s) (fun v s => wO (frz v) fun x => wO (putP t x e) fun e => K e s) (fun x s => XS x e s) := by
  unfold pAsg
  rw [wS_prs]
  constructor <;> refine fun h => wE_mono h (fun v s h => ?_) (fun _ _ h => h)
  · cases q : frz v with
    | none => rw [q] at h; exact h.elim
    | some x =>
      simp only [q] at h
      rw [wO_some]
      cases q2 : putP t x e with
      | none => rw [q2] at h; exact h.elim
      | some e1 => rw [q2] at h; exact h
  · cases q : frz v with
    | none => rw [q] at h; exact h.elim
    | some x =>
      rw [q, wO_some] at h
      simp only []
      cases q2 : putP t x e with
      | none => rw [q2] at h; exact h.elim
      | some e1 => rw [q2] at h; exact h
theorem w_aug {i : Nat} {p : PV → PV → Option PV} : wS (pAug i p ga e s) K QS XS ↔ wO (slD e[i]?) fun x => wE (ga e s) (fun y s => wO (p (.d x) y) fun v => wO (frz v) fun z => K (e.set i (.d z)) s) (fun x s => XS x e s) := by
  unfold pAug
  cases e[i]? with
  | none => exact Iff.rfl
  | some sl =>
    cases sl with
    | no => exact Iff.rfl
    | own c => exact Iff.rfl
    | bag => exact Iff.rfl
    | ob _ => exact Iff.rfl
    | d x =>
      simp only [slD, wO_some]
      rw [wS_prs]
      constructor <;> refine fun h => wE_mono h (fun y s h => ?_) (fun _ _ h => h)
      · cases q : p (.d x) y with
        | none => rw [q] at h; exact h.elim
        | some v =>
          simp only [q, setF] at h
          rw [wO_some]
          cases q2 : frz v with
          | none => rw [q2] at h; exact h.elim
          | some z => rw [q2] at h; exact h
      · cases q : p (.d x) y with
        | none => rw [q] at h; exact h.elim
        | some v =>
          rw [q, wO_some] at h
          simp only [setF]
          cases q2 : frz v with
          | none => rw [q2] at h; exact h.elim
          | some z => rw [q2] at h; exact h
theorem w_par {is : List Nat} {own : List Bool} {ga : Pe (List PV)} : wS (pPar is own ga e s) K QS XS ↔ wE (ga e s) (fun vs s => wO (thaw own vs) fun us => wO (setsP is us e) fun e => K e s) (fun x s => XS x e s) := by
  unfold pPar
  rw [wS_prs]
  constructor <;> refine fun h => wE_mono h (fun v s h => ?_) (fun _ _ h => h)
  · cases q : thaw own v with
    | none => rw [q] at h; exact h.elim
    | some x =>
      simp only [q] at h
      rw [wO_some]
      cases q2 : setsP is x e with
      | none => rw [q2] at h; exact h.elim
      | some e1 => rw [q2] at h; exact h
  · cases q : thaw own v with
    | none => rw [q] at h; exact h.elim
    | some x =>
      rw [q, wO_some] at h
      simp only []
      cases q2 : setsP is x e with
      | none => rw [q2] at h; exact h.elim
      | some e1 => rw [q2] at h; exact h
def oneV : List PV → Option PV
  | [v] => some v
  | _ => none
theorem w_app {j : Nat} {ga : Pe (List PV)} : wS (pApp j ga e s) K QS XS ↔ wO (slL e[j]?) fun xs => wE (ga e s) (fun vs s => wO (oneV vs) fun v => wO (frz v) fun y => xs.length < LIM ∧ K (e.set j (.own (.l (xs ++ [y])))) s) (fun x s => XS x e s) := by
  unfold pApp
  cases e[j]? with
  | none => exact Iff.rfl
  | some sl =>
    cases sl with
    | no => exact Iff.rfl
    | d x => exact Iff.rfl
    | bag => exact Iff.rfl
    | ob _ => exact Iff.rfl
    | own c =>
      cases c with
      | k _ => exact Iff.rfl
      | n _ => exact Iff.rfl
      | g _ => exact Iff.rfl
      | l xs =>
        simp only [slL, wO_some]
        rw [wS_prs]
        constructor <;> refine fun h => wE_mono h (fun vs s h => ?_) (fun _ _ h => h)
        · cases vs with
          | nil => exact h.elim
          | cons v r =>
            cases r with
            | cons _ _ => exact h.elim
            | nil =>
              simp only [oneV, wO_some] at h ⊢
              cases q : frz v with
              | none => rw [q] at h; exact h.elim
              | some y =>
                rw [q] at h
                simp only [wO_some] at h ⊢
                by_cases hl : xs.length < LIM
                · rw [if_pos hl] at h; exact ⟨hl, h⟩
                · rw [if_neg hl] at h; exact h.elim
        · cases vs with
          | nil => exact h.elim
          | cons v r =>
            cases r with
            | cons _ _ => exact h.elim
            | nil =>
              simp only [oneV, wO_some] at h ⊢
              cases q : frz v with
              | none => rw [q] at h; exact h.elim
              | some y =>
                rw [q] at h
                simp only [wO_some] at h ⊢
                rw [if_pos h.1]; exact h.2
theorem w_ext {j : Nat} {ga : Pe (List PV)} : wS (pExt j ga e s) K QS XS ↔ wO (slL e[j]?) fun xs => wE (ga e s) (fun vs s => wO (oneV vs) fun v => wO (lstP v) fun ys => xs.length + ys.length ≤ LIM ∧ K (e.set j (.own (.l (xs ++ ys)))) s) (fun x s => XS x e s) := by
  unfold pExt
  cases e[j]? with
  | none => exact Iff.rfl
  | some sl =>
    cases sl with
    | no => exact Iff.rfl
    | d x => exact Iff.rfl
    | bag => exact Iff.rfl
    | ob _ => exact Iff.rfl
    | own c =>
      cases c with
      | k _ => exact Iff.rfl
      | n _ => exact Iff.rfl
      | g _ => exact Iff.rfl
      | l xs =>
        simp only [slL, wO_some]
        rw [wS_prs]
        constructor <;> refine fun h => wE_mono h (fun vs s h => ?_) (fun _ _ h => h)
        · cases vs with
          | nil => exact h.elim
          | cons v r =>
            cases r with
            | cons _ _ => exact h.elim
            | nil =>
              simp only [oneV, wO_some] at h ⊢
              cases q : lstP v with
              | none => rw [q] at h; exact h.elim
              | some y =>
                rw [q] at h
                simp only [wO_some] at h ⊢
                by_cases hl : xs.length + y.length ≤ LIM
                · rw [if_pos hl] at h; exact ⟨hl, h⟩
                · rw [if_neg hl] at h; exact h.elim
        · cases vs with
          | nil => exact h.elim
          | cons v r =>
            cases r with
            | cons _ _ => exact h.elim
            | nil =>
              simp only [oneV, wO_some] at h ⊢
              cases q : lstP v with
              | none => rw [q] at h; exact h.elim
              | some y =>
                rw [q] at h
                simp only [wO_some] at h ⊢
                rw [if_pos h.1]; exact h.2
theorem w_subS {j : Nat} : wS (pSubS j ga gb e s) K QS XS ↔ wO (slL e[j]?) fun xs => wE (gb e s) (fun v s => wE (ga e s) (fun i s => wO (intV i) fun k => wO (frz v) fun y => wO (ixN xs.length k) fun n => K (e.set j (.own (.l (xs.set n y)))) s) (fun x s => XS x e s)) (fun x s => XS x e s) := by
  unfold pSubS
  cases e[j]? with
  | none => exact Iff.rfl
  | some sl =>
    cases sl with
    | no => exact Iff.rfl
    | d x => exact Iff.rfl
    | bag => exact Iff.rfl
    | ob _ => exact Iff.rfl
    | own c =>
      cases c with
      | k _ => exact Iff.rfl
      | n _ => exact Iff.rfl
      | g _ => exact Iff.rfl
      | l xs =>
        simp only [slL, wO_some, wS_prs]
        constructor <;> refine fun h => wE_mono h (fun v s h => wE_mono h (fun i s h => ?_) (fun _ _ h => h)) (fun _ _ h => h)
        · cases i with
          | d x =>
            cases x with
            | int k =>
              simp only [intV, wO_some]
              cases q : frz v with
              | none => rw [q] at h; exact h.elim
              | some y =>
                simp only [q] at h
                rw [wO_some]
                cases q2 : ixN xs.length k with
                | none => rw [q2] at h; exact h.elim
                | some n => rw [q2] at h; exact h
            | _ => exact h.elim
          | _ => exact h.elim
        · cases i with
          | d x =>
            cases x with
            | int k =>
              simp only [intV, wO_some] at h
              cases q : frz v with
              | none => rw [q] at h; exact h.elim
              | some y =>
                rw [q, wO_some] at h
                simp only []
                cases q2 : ixN xs.length k with
                | none => rw [q2] at h; exact h.elim
                | some n => rw [q2] at h; exact h
            | _ => exact h.elim
          | _ => exact h.elim
theorem w_raise {x : Str} {n : Nat} {fs : List (Str × Nat)} {ga : Pe (List PV)} : wS (pRaise x n fs ga e s) K QS XS ↔ wE (ga e s) (fun vs s => wO (frzs vs) fun ds => ds.length = n ∧ XS (pexOf x fs ds) e s) (fun x s => XS x e s) := by
  unfold pRaise
  rw [wS_prs]
  constructor <;> refine fun h => wE_mono h (fun v s h => ?_) (fun _ _ h => h)
  · cases q : frzs v with
    | none => rw [q] at h; exact h.elim
    | some us =>
      rw [q] at h
      simp only [] at h
      by_cases hn : us.length = n
      · rw [if_pos hn] at h; exact ⟨hn, h⟩
      · rw [if_neg hn] at h; exact h.elim
  · cases q : frzs v with
    | none => rw [q] at h; exact h.elim
    | some us =>
      rw [q] at h
      simp only []
      rw [if_pos h.1]; exact h.2
theorem w_lam {T : PR PV → PR PV} : wE (pLam T ga e s) Q X ↔ wE (T (ga e s)) Q X := Iff.rfl
theorem w_run {n : Nat} {b : Ps} {vs : List PV} (h : wS (b (startP n vs) s) (fun _ s => Q (.d .none) s) (fun f _ s => match f with | .rt v => Q v s | _ => False) (fun x _ s => X x s)) : wE (runP n b vs s) Q X := by
  unfold runP
  cases q : b (startP n vs) s with
  | go f e s1 => rw [q] at h; cases f <;> exact h
  | exc x e s1 => rw [q] at h; exact h
  | stuck => rw [q] at h; exact h
/-- an answer as an equation -/
theorem run_eq {n : Nat} {b : Ps} {vs : List PV} {v : PV} {s' : Bg} (h : wS (b (startP n vs) s) (fun _ s1 => PV.d .none = v ∧ s1 = s') (fun f _ s1 => f = .rt v ∧ s1 = s') (fun _ _ _ => False)) : runP n b vs s = .ok v s' := by
  unfold runP
  cases q : b (startP n vs) s with
  | go f e s1 =>
    rw [q] at h
    cases f with
    | nx => obtain ⟨rfl, rfl⟩ := h; rfl
    | rt w => obtain ⟨h1, rfl⟩ := h; cases h1; rfl
    | bk => obtain ⟨h1, _⟩ := h; cases h1
    | ct => obtain ⟨h1, _⟩ := h; cases h1
  | exc x e s1 => rw [q] at h; exact h.elim
  | stuck => rw [q] at h; exact h.elim
theorem wE_eq {r : PR PV} {v : PV} {s' : Bg} (h : r = .ok v s') : wE r Q X ↔ Q v s' := by rw [h]; exact Iff.rfl
def brkP (K : PEnv → Bg → Prop) (C : PEnv → Bg → Prop) (QS : PFl → PEnv → Bg → Prop) : PFl → PEnv → Bg → Prop
  | .ct => C
  | .bk => K
  | f => QS f
theorem w_for {g : Pe PIt} {t : Tg} : wS (pFor g t f e s) K QS XS ↔ wE (g e s) (fun p s => p.free = true ∧ wS (pForL t f p.xs e s) K QS XS) (fun x s => XS x e s) := by
  unfold pFor
  rw [wS_prs]
  constructor <;> refine fun h => wE_mono h (fun p s h => ?_) (fun _ _ h => h)
  · by_cases hp : p.free = true
    · rw [if_pos hp] at h; exact ⟨hp, h⟩
    · rw [if_neg hp] at h; exact h.elim
  · rw [if_pos h.1]; exact h.2
theorem w_forC {t : Tg} {x : PyData} {xs : List PyData} : wS (pForL t f (x :: xs) e s) K QS XS ↔ wO (putP t x e) fun e1 => wS (f e1 s) (fun e2 s2 => wS (pForL t f xs e2 s2) K QS XS) (brkP K (fun e2 s2 => wS (pForL t f xs e2 s2) K QS XS) QS) XS := by
  conv => lhs; unfold pForL
  cases putP t x e with
  | none => exact Iff.rfl
  | some e1 =>
    simp only [wO_some]
    cases f e1 s with
    | go fl e2 s2 => cases fl <;> exact Iff.rfl
    | exc _ _ _ => exact Iff.rfl
    | stuck => exact Iff.rfl
/-- over a list, by what holds before the k-th item -/
theorem w_forI {t : Tg} (I : Nat → PEnv → Bg → Prop) (xs : List PyData) (hs : ∀ (k : Nat) e s x, xs[k]? = some x → I k e s → wO (putP t x e) fun e1 => wS (f e1 s) (I (k + 1)) (brkP K (I (k + 1)) QS) XS) (hd : ∀ e s, I xs.length e s → K e s) :
    ∀ (ys : List PyData) (k : Nat) (e : PEnv) (s : Bg), xs.drop k = ys → k + ys.length = xs.length → I k e s → wS (pForL t f ys e s) K QS XS
  | [], k, e, s, _, hl, h => by
    have : k = xs.length := by simpa using hl
    subst this
    exact hd e s h
  | x :: ys, k, e, s, ed, hl, h => by
    rw [w_forC]
    have hx : xs[k]? = some x := by
      have : (xs.drop k)[0]? = some x := by rw [ed]; rfl
      rwa [List.getElem?_drop, Nat.add_zero] at this
    have e2 : xs.drop (k + 1) = ys := by rw [← List.drop_drop, ed]; rfl
    have ih := fun e s h => w_forI I xs hs hd ys (k + 1) e s e2 (by simp at hl; omega) h
    have h1 := hs k e s x hx h
    cases q : putP t x e with
    | none => rw [q] at h1; exact h1.elim
    | some e1 =>
      rw [q] at h1
      refine wS_mono h1 ih (fun fl e s h => ?_) (fun _ _ _ h => h)
      cases fl with
      | ct => exact ih e s h
      | _ => exact h
theorem w_for0 {t : Tg} {xs : List PyData} (I : Nat → PEnv → Bg → Prop) (h0 : I 0 e s) (hs : ∀ (k : Nat) e s x, xs[k]? = some x → I k e s → wO (putP t x e) fun e1 => wS (f e1 s) (I (k + 1)) (brkP K (I (k + 1)) QS) XS) (hd : ∀ e s, I xs.length e s → K e s) :
    wS (pForL t f xs e s) K QS XS := w_forI I xs hs hd xs 0 e s (by simp) (by simp) h0
theorem w_while (I : Nat → PEnv → Bg → Prop) (hs : ∀ k e s, I k e s → wE (c e s) (fun b s1 => if b = true then wS (f e s1) (fun e2 s2 => ∃ j, j < k ∧ I j e2 s2) (brkP K (fun e2 s2 => ∃ j, j < k ∧ I j e2 s2) QS) XS else K e s1) (fun x s => XS x e s)) :
    ∀ (k : Nat) (e : PEnv) (s : Bg), I k e s → wS (pWh c f e s) K QS XS := by
  have unf : ∀ e s, wE (c e s) (fun b s1 => if b = true then wS (f e s1) (fun e2 s2 => wS (pWh c f e2 s2) K QS XS) (brkP K (fun e2 s2 => wS (pWh c f e2 s2) K QS XS) QS) XS else K e s1) (fun x s => XS x e s) → wS (pWh c f e s) K QS XS := by
    intro e s h
    have ofN : ∀ {e2 s2 r}, pWh c f e2 s2 = r → r ≠ .stuck → ∃ n, whPN c f n e2 s2 = r := fun {e2 s2 r} hr hn => by
      unfold pWh at hr
      split at hr
      · rename_i hex
        exact ⟨_, hr⟩
      · exact absurd hr.symm hn
    have step : ∀ (n : Nat) {r : PS}, whPN c f (n + 1) e s = r → r ≠ .stuck → wS r K QS XS → wS (pWh c f e s) K QS XS := fun n r hr hn hw => by rw [pWh_of hr hn]; exact hw
    have go : ∀ {b s1}, c e s = .ok b s1 → wS (pWh c f e s) K QS XS := fun {b s1} ec => by
      rw [ec] at h
      cases b with
      | false => exact step 0 (show prs (c e s) e _ = PS.go .nx e s1 by rw [ec]; rfl) (by simp) h
      | true =>
        have h' : wS (f e s1) (fun e2 s2 => wS (pWh c f e2 s2) K QS XS) (brkP K (fun e2 s2 => wS (pWh c f e2 s2) K QS XS) QS) XS := h
        have loop : ∀ {e2 s2}, (f e s1 = .go .nx e2 s2 ∨ f e s1 = .go .ct e2 s2) → wS (pWh c f e2 s2) K QS XS → wS (pWh c f e s) K QS XS := fun {e2 s2} ef hw => by
          have hn : pWh c f e2 s2 ≠ .stuck := fun z => by rw [z] at hw; exact hw.elim
          obtain ⟨n, en⟩ := ofN rfl hn
          refine step n (r := pWh c f e2 s2) ?_ hn hw
          show prs (c e s) e _ = _
          rw [ec]
          rcases ef with ef | ef <;> (simp only [prs_ok, if_true, ef]; exact en)
        cases ef : f e s1 with
        | stuck => rw [ef] at h'; exact h'.elim
        | exc x e2 s2 =>
          rw [ef] at h'
          exact step 0 (r := .exc x e2 s2) (by show prs (c e s) e _ = _; rw [ec]; simp only [prs_ok, if_true, ef]) (by simp) h'
        | go fl e2 s2 =>
          rw [ef] at h'
          cases fl with
          | nx => exact loop (.inl ef) h'
          | ct => exact loop (.inr ef) h'
          | bk => exact step 0 (r := .go .nx e2 s2) (by show prs (c e s) e _ = _; rw [ec]; simp only [prs_ok, if_true, ef]) (by simp) h'
          | rt v => exact step 0 (r := .go (.rt v) e2 s2) (by show prs (c e s) e _ = _; rw [ec]; simp only [prs_ok, if_true, ef]) (by simp) h'
    cases ec : c e s with
    | stuck => rw [ec] at h; exact h.elim
    | ok b s1 => exact go ec
    | exc x s1 =>
      rw [ec] at h
      exact step 0 (r := .exc x e s1) (by show prs (c e s) e _ = _; rw [ec]; rfl) (by simp) h
  intro k
  induction k using Nat.strongRecOn with
  | _ k ih =>
    intro e s h0
    refine unf e s (wE_mono (hs k e s h0) (fun b s1 h => ?_) (fun _ _ h => h))
    cases b with
    | false => exact h
    | true =>
      rw [if_pos rfl] at h ⊢
      refine wS_mono h (fun e2 s2 ⟨j, hj, h⟩ => ih j hj e2 s2 h) (fun fl e2 s2 h => ?_) (fun _ _ _ h => h)
      cases fl with
      | ct => obtain ⟨j, hj, h⟩ := h; exact ih j hj e2 s2 h
      | _ => exact h
end
end PD
set_option Elab.async false
set_option linter.all false
set_option maxRecDepth 100000
set_option maxHeartbeats 2000000
namespace PD
open PySem PySem.Spec PyProof.Rows L2 DL
section
variable {x : PyData} {c : Co} {i j : Nat} {xs ys : List PyData} {v : PV} {vs : List PV} {b : Bool} {bs : List Bool} {e : PEnv} {is : List Nat}
theorem pd_slV1 : slV i (some (.d x)) = some (.d x) := rfl
theorem pd_slV2 : slV i (some (.own c)) = some (.bo i c) := rfl
theorem pd_slV3 : slV i (some .bag) = some .bag := rfl
theorem pd_slD : slD (some (.d x)) = some x := rfl
theorem pd_slL : slL (some (.own (.l xs))) = some xs := rfl
theorem pd_frz1 : frz (.d x) = some x := rfl
theorem pd_frz2 : frz (.fr c) = some c.toD := rfl
theorem pd_frzA0 : frzA [] = some [] := rfl
theorem pd_frzA1 : frzA (.d x :: vs) = (frzA vs).map fun r => .d x :: r := rfl
theorem pd_frzA2 : frzA (.fr c :: vs) = (frzA vs).map fun r => .d c.toD :: r := rfl
theorem pd_frzA3 : frzA (.bag :: vs) = (frzA vs).map fun r => .bag :: r := rfl
theorem pd_frzs0 : frzs [] = some [] := rfl
theorem pd_frzs1 : frzs (.d x :: vs) = (frzs vs).map fun r => x :: r := by
  show (match frz (.d x), frzs vs with | some x, some xs => some (x :: xs) | _, _ => none) = _
  cases frzs vs <;> rfl
theorem pd_frzs2 : frzs (.fr c :: vs) = (frzs vs).map fun r => c.toD :: r := by
  show (match frz (.fr c), frzs vs with | some x, some xs => some (x :: xs) | _, _ => none) = _
  cases frzs vs <;> rfl
theorem pd_retV1 : retV (.d x) = some (.d x) := rfl
theorem pd_retV2 : retV (.fr c) = some (.fr c) := rfl
theorem pd_retV3 : retV (.bo i c) = some (.fr c) := rfl
theorem pd_oneV : oneV [v] = some v := rfl
theorem pd_intV {k : Int} : intV (.d (.int k)) = some k := rfl
theorem pd_strV {k : Str} : strV (.d (.str k)) = some k := rfl
theorem pd_boolP : boolP (.d (.bool b)) = some b := rfl
theorem pd_truN : truP (.d .none) = some false := rfl
theorem pd_truB : truP (.d (.bool b)) = some b := rfl
theorem pd_truI {k : Int} : truP (.d (.int k)) = some (k != 0) := rfl
theorem pd_lst1 : lstP (.d (.list xs)) = some xs := rfl
theorem pd_lst2 : lstP (.fr (.l xs)) = some xs := rfl
theorem pd_lst3 : lstP (.bo i (.l xs)) = some xs := rfl
theorem pd_tup : tupP (.d (.tuple xs)) = some xs := rfl
theorem pd_seq1 : seqP (.d (.list xs)) = some xs := rfl
theorem pd_seq2 : seqP (.d (.tuple xs)) = some xs := rfl
theorem pd_seq3 : seqP (.fr (.l xs)) = some xs := rfl
theorem pd_seq4 : seqP (.bo i (.l xs)) = some xs := rfl
theorem pd_it1 : itP (.d (.tuple xs)) = some ⟨xs, true⟩ := rfl
theorem pd_it2 : itP (.d (.list xs)) = some ⟨xs, true⟩ := rfl
theorem pd_it3 : itP (.fr (.l xs)) = some ⟨xs, true⟩ := rfl
theorem pd_it4 : itP (.bo i (.l xs)) = some ⟨xs, false⟩ := rfl
theorem pd_thaw0 : thaw [] [] = some [] := rfl
theorem pd_thaw1 : thaw (b :: bs) (.d x :: vs) = (thaw bs vs).map fun r => .d x :: r := rfl
theorem pd_thaw2 : thaw (b :: bs) (.fr c :: vs) = (thaw bs vs).map fun r => (if b = true then .fr c else .d c.toD) :: r := rfl
theorem pd_sets0 : setsP [] [] e = some e := rfl
theorem pd_sets1 : setsP (i :: is) (.d x :: vs) e = setsP is vs (e.set i (.d x)) := rfl
theorem pd_sets2 : setsP (i :: is) (.fr c :: vs) e = setsP is vs (e.set i (.own c)) := rfl
theorem pd_setV1 : setV i (.d x) e = some (e.set i (.d x)) := rfl
theorem pd_setV2 : setV i (.fr c) e = some (e.set i (.own c)) := rfl
theorem pd_put1 : putP (.name i) x e = some (e.set i (.d x)) := rfl
theorem pd_put2 {ts : List Tg} : putP (.tup ts) (.tuple xs) e = putPs ts xs e := rfl
theorem pd_puts0 : putPs [] [] e = some e := rfl
theorem pd_puts1 {t : Tg} {ts : List Tg} : putPs (t :: ts) (x :: xs) e = (putP t x e).bind fun e => putPs ts xs e := rfl
theorem wO_ran1 {k : Int} {Q : PIt → Prop} : wO (ran1P [.d (.int k)]) Q ↔ range62 k = true ∧ Q ⟨intsP' 0 k.toNat, true⟩ := by
  show wO (if range62 k = true then some (⟨intsP' 0 k.toNat, true⟩ : PIt) else none) Q ↔ _
  by_cases h : range62 k = true
  · rw [if_pos h]; exact ⟨fun q => ⟨h, q⟩, fun q => q.2⟩
  · rw [if_neg h]; exact ⟨fun q => q.elim, fun q => h q.1⟩
end
section
variable {Q : PV → Prop} {a b : Int}
theorem o_add : wO (pAdd (.d (.int a)) (.d (.int b))) Q ↔ Q (.d (.int (a + b))) := Iff.rfl
theorem o_iadd : wO (pIadd (.d (.int a)) (.d (.int b))) Q ↔ Q (.d (.int (a + b))) := Iff.rfl
theorem o_sub : wO (pSub (.d (.int a)) (.d (.int b))) Q ↔ Q (.d (.int (a - b))) := Iff.rfl
theorem o_lt : wO (pLt (.d (.int a)) (.d (.int b))) Q ↔ Q (.d (.bool (decide (a < b)))) := Iff.rfl
theorem o_le : wO (pLe (.d (.int a)) (.d (.int b))) Q ↔ Q (.d (.bool (decide (a ≤ b)))) := Iff.rfl
theorem o_gt : wO (pGt (.d (.int a)) (.d (.int b))) Q ↔ Q (.d (.bool (decide (b < a)))) := Iff.rfl
theorem o_ge : wO (pGe (.d (.int a)) (.d (.int b))) Q ↔ Q (.d (.bool (decide (b ≤ a)))) := Iff.rfl
theorem wO_ite {α : Type} {p : Prop} [Decidable p] {x : α} {Q : α → Prop} : wO (if p then some x else none) Q ↔ p ∧ Q x := by
  by_cases h : p
  · rw [if_pos h]; exact ⟨fun q => ⟨h, q⟩, fun q => q.2⟩
  · rw [if_neg h]; exact ⟨fun q => q.elim, fun q => h q.1⟩
theorem o_pInt {C : Int → Int → Bool} {g : Int → Int → PyData} : wO (pInt C g (.d (.int a)) (.d (.int b))) Q ↔ C a b = true ∧ Q (.d (g a b)) := wO_ite
theorem o_mod : wO (pMod (.d (.int a)) (.d (.int b))) Q ↔ 0 < b ∧ Q (.d (.int (a % b))) := by unfold pMod; rw [o_pInt, decide_eq_true_eq]
theorem o_fdiv : wO (pFdiv (.d (.int a)) (.d (.int b))) Q ↔ (0 < b ∧ b < 1073741824) ∧ Q (.d (.int (a / b))) := by unfold pFdiv; rw [o_pInt, decide_eq_true_eq]
theorem o_pow : wO (pPow (.d (.int a)) (.d (.int b))) Q ↔ (0 ≤ b ∧ b ≤ 1000000 ∧ a.natAbs < 2 ^ 64) ∧ Q (.d (.int (a ^ b.toNat))) := by unfold pPow; rw [o_pInt, decide_eq_true_eq]
theorem o_mul : wO (pMul (.d (.int a)) (.d (.int b))) Q ↔ (small64 a || small64 b) = true ∧ Q (.d (.int (a * b))) := wO_ite
theorem o_int : wO (pInt1 [.d (.int a)]) Q ↔ Q (.d (.int a)) := Iff.rfl
theorem o_abs : wO (pAbs [.d (.int a)]) Q ↔ Q (.d (.int (if a < 0 then -a else a))) := Iff.rfl
theorem o_eqi : wO (pEq (.d (.int a)) (.d (.int b))) Q ↔ Q (.d (.bool (decide (a = b)))) := by
  show Q (.d (.bool (a == b))) ↔ _
  rfl
theorem o_nei : wO (pNe (.d (.int a)) (.d (.int b))) Q ↔ Q (.d (.bool (!decide (a = b)))) := by
  show Q (.d (.bool (!(a == b)))) ↔ _
  rfl
theorem o_neb {a b : Bool} : wO (pNe (.d (.bool a)) (.d (.bool b))) Q ↔ Q (.d (.bool (!(a == b)))) := Iff.rfl
def notDk : PyData → Bool
  | .dict _ => false
  | _ => true
theorem nd_tup {xs : List PyData} : notDk (.tuple xs) = true := rfl
theorem nd_lst {xs : List PyData} : notDk (.list xs) = true := rfl
theorem o_isi {Ts : List String} {x : PyData} : wO (pIsi Ts (.d x)) Q ↔ notDk x = true ∧ Q (.d (.bool (Ts.any (isT (tyD x))))) := by
  cases x with
  | dict kvs => exact ⟨fun h => h.elim, fun h => by cases h.1⟩
  | _ => exact ⟨fun h => ⟨rfl, h⟩, fun h => h.2⟩
theorem o_lenS {x : Str} : wO (pLen [.d (.str x)]) Q ↔ x.length ≤ LIM ∧ Q (.d (.int x.length)) := wO_ite
theorem o_len {v : PV} {xs : List PyData} (h : seqP v = some xs) : wO (pLen [v]) Q ↔ Q (.d (.int xs.length)) := by
  have e : pLen [v] = some (.d (.int xs.length)) := by
    cases v with
    | d x => cases x <;> first | (cases h; done) | (cases h; rfl)
    | fr c => cases c <;> first | (cases h; done) | (cases h; rfl)
    | bo i c => cases c <;> first | (cases h; done) | (cases h; rfl)
    | bag => cases h
    | ob _ => cases h
  rw [e]; exact Iff.rfl
theorem o_lenT {xs : List PyData} : wO (pLen [.d (.tuple xs)]) Q ↔ Q (.d (.int xs.length)) := Iff.rfl
theorem o_lenL {xs : List PyData} : wO (pLen [.d (.list xs)]) Q ↔ Q (.d (.int xs.length)) := Iff.rfl
theorem o_lenB {i : Nat} {xs : List PyData} : wO (pLen [.bo i (.l xs)]) Q ↔ Q (.d (.int xs.length)) := Iff.rfl
theorem o_tup {vs : List PV} : wO (pTup vs) Q ↔ wO (frzs vs) fun xs => xs.length ≤ LIM ∧ Q (.d (.tuple xs)) := by
  unfold pTup
  cases frzs vs with
  | none => exact Iff.rfl
  | some xs => exact wO_ite
theorem o_lst {vs : List PV} : wO (pLst vs) Q ↔ wO (frzs vs) fun xs => xs.length ≤ LIM ∧ Q (.fr (.l xs)) := by
  unfold pLst
  cases frzs vs with
  | none => exact Iff.rfl
  | some xs => exact wO_ite
theorem o_list {v : PV} : wO (pList [v]) Q ↔ wO (seqP v) fun xs => Q (.fr (.l xs)) := by
  show wO ((seqP v).map fun xs => PV.fr (.l xs)) Q ↔ _
  cases seqP v <;> exact Iff.rfl
theorem o_tuple {v : PV} : wO (pTuple [v]) Q ↔ wO (seqP v) fun xs => Q (.d (.tuple xs)) := by
  show wO ((seqP v).map fun xs => PV.d (.tuple xs)) Q ↔ _
  cases seqP v <;> exact Iff.rfl
theorem o_cat {v w : PV} {xs ys : List PyData} (h : lstP v = some xs) (h2 : lstP w = some ys) : wO (pAdd v w) Q ↔ xs.length + ys.length ≤ LIM ∧ Q (.fr (.l (xs ++ ys))) := by
  have e : pAdd v w = if xs.length + ys.length ≤ LIM then some (.fr (.l (xs ++ ys))) else none := by
    unfold pAdd
    split
    · cases h
    · cases h
    · rw [h, h2]
  rw [e]; exact wO_ite
theorem o_ix {v : PV} {xs : List PyData} (h : seqP v = some xs) : wO (pIx v (.d (.int a))) Q ↔ wO (atI xs a) fun x => Q (.d x) := by
  have e : pIx v (.d (.int a)) = (atI xs a).map .d := by
    unfold pIx
    split
    · cases h
    · rename_i i _ hi
      cases hi
      rw [h]
    · rename_i h1 h2
      exact absurd rfl (h1 a)
  rw [e]
  cases atI xs a <;> exact Iff.rfl
/-- two that are equal, or not -/
theorem o_eqW {v w : PV} {x y : PyData} (h : valP v = some x) (h2 : valP w = some y) (hs : (scalD x y || (SeqAt.shaped x && SeqAt.shaped y)) = true) : wO (pEq v w) Q ↔ Q (.d (.bool (PyData.eqv x y))) := by
  have e : pEqB v w = some (PyData.eqv x y) := by
    unfold pEqB
    rw [h, h2]
    exact if_pos hs
  unfold pEq
  rw [e]; exact Iff.rfl
theorem o_neW {v w : PV} {x y : PyData} (h : valP v = some x) (h2 : valP w = some y) (hs : (scalD x y || (SeqAt.shaped x && SeqAt.shaped y)) = true) : wO (pNe v w) Q ↔ Q (.d (.bool (!PyData.eqv x y))) := by
  have e : pEqB v w = some (PyData.eqv x y) := by
    unfold pEqB
    rw [h, h2]
    exact if_pos hs
  unfold pNe
  rw [e]; exact Iff.rfl
theorem strsP_map : ∀ ss : List Str, strsP (ss.map .str) = some ss
  | [] => rfl
  | s :: r => by
    show (strsP (r.map .str)).map (s :: ·) = _
    rw [strsP_map r]; rfl
theorem o_join {a : Str} {v : PV} {ss : List Str} (h : seqP v = some (ss.map .str)) : wO (joinP a v) Q ↔ (ss.map (·.length)).sum + ss.length * a.length ≤ 16777216 ∧ Q (.d (.str (Txt.join a ss))) := by
  unfold joinP
  rw [h]
  simp only [strsP_map]
  exact wO_ite
abbrev zs (l : List Int) : List PyData := l.map .int
end
section
variable {e : PEnv} {s : Bg} {Q : PV → Bg → Prop} {X : PEx → Bg → Prop} {XS : PEx → PEnv → Bg → Prop} {K : PEnv → Bg → Prop} {QS : PFl → PEnv → Bg → Prop} {ga : Pe PV}
theorem w_bagIx {j k : Nat} : wE (pBagIx j k e s) Q X ↔ e[j]? = some .bag ∧ wO (s.get k) fun x => Q (.d (.int x)) s := by
  unfold pBagIx
  split
  · rename_i x h1 h2
    rw [h1, h2]
    exact ⟨fun h => ⟨rfl, h⟩, fun h => h.2⟩
  · rename_i hh
    refine ⟨fun h => h.elim, fun ⟨h1, h2⟩ => ?_⟩
    cases q : s.get k with
    | none => rw [q] at h2; exact h2.elim
    | some x => exact (hh x h1 q).elim
end
end PD
set_option Elab.async false
set_option linter.all false
set_option maxRecDepth 100000
set_option maxHeartbeats 4000000
namespace PD
variable {zo : List Ob}
open PySem PySem.Spec PyProof.Rows L2 DL Hn
section
variable {e : PEnv} {s : Bg} {Q : PV → Bg → Prop} {X : PEx → Bg → Prop} {XS : PEx → PEnv → Bg → Prop} {K : PEnv → Bg → Prop} {QS : PFl → PEnv → Bg → Prop} {ga : Pe PV}
theorem w_bagSet {j k : Nat} : wS (pBagSet j k ga e s) K QS XS ↔ e[j]? = some .bag ∧ wE (ga e s) (fun v s => wO (intV v) fun x => 0 ≤ x ∧ wO (s.put k x) fun s => K e s) (fun x s => XS x e s) := by
  unfold pBagSet
  split
  · rename_i h1
    rw [h1, wS_prs]
    have key : ∀ (v : PV) (s : Bg), wS (match v with | .d (.int x) => if 0 ≤ x then (match s.put k x with | some s => PS.go .nx e s | none => .stuck) else .stuck | _ => .stuck) K QS XS ↔ wO (intV v) fun x => 0 ≤ x ∧ wO (s.put k x) fun s => K e s := fun v s => by
      cases v with
      | d x =>
        cases x with
        | int x =>
          simp only [intV, wO_some]
          by_cases hx : 0 ≤ x
          · rw [if_pos hx]
            cases s.put k x with
            | none => exact ⟨fun h => h.elim, fun h => h.2.elim⟩
            | some s => exact ⟨fun h => ⟨hx, h⟩, fun h => h.2⟩
          · rw [if_neg hx]; exact ⟨fun h => h.elim, fun h => absurd h.1 hx⟩
        | _ => exact Iff.rfl
      | _ => exact Iff.rfl
    refine ⟨fun h => ⟨rfl, wE_mono h (fun v s h => (key v s).mp h) (fun _ _ h => h)⟩, fun h => wE_mono h.2 (fun v s h => (key v s).mpr h) (fun _ _ h => h)⟩
  · rename_i hh
    exact ⟨fun h => h.elim, fun h => absurd h.1 hh⟩
theorem w_bagAug {j k : Nat} {a : Int} : wS (pBagAug j k (pC (.int a)) e s) K QS XS ↔ e[j]? = some .bag ∧ wO (s.get k) fun y => 0 ≤ y + a ∧ wO (s.put k (y + a)) fun s => K e s := by
  unfold pBagAug
  split
  · rename_i y h1 h2
    rw [h1, h2, wS_prs]
    show wS (match (PV.d (.int a) : PV), s.get k with | .d (.int x), some z => if 0 ≤ y + x ∧ z = y then (match s.put k (y + x) with | some s => PS.go .nx e s | none => .stuck) else .stuck | _, _ => .stuck) K QS XS ↔ _
    rw [h2]
    simp only [wO_some]
    by_cases hx : 0 ≤ y + a
    · rw [if_pos ⟨hx, trivial⟩]
      cases s.put k (y + a) with
      | none => exact ⟨fun h => h.elim, fun h => h.2.2.elim⟩
      | some s => exact ⟨fun h => ⟨trivial, hx, h⟩, fun h => h.2.2⟩
    · rw [if_neg fun h => hx h.1]; exact ⟨fun h => h.elim, fun h => absurd h.2.1 hx⟩
  · rename_i hh
    refine ⟨fun h => h.elim, fun ⟨h1, h2⟩ => ?_⟩
    cases q : s.get k with
    | none => rw [q] at h2; exact h2.elim
    | some x => exact (hh x h1 q).elim
theorem w_bagCut {j : Nat} : wE (pBagCut j ga e s) Q X ↔ e[j]? = some .bag ∧ wE (ga e s) (fun v s => wO (intV v) fun i => Q (.fr (.l (cutL (s.xs.map .int) (some i) none))) s) X := by
  unfold pBagCut
  split
  · rename_i h1
    rw [h1, wE_bind]
    have key : ∀ (v : PV) (s : Bg), wE (match v with | .d (.int i) => PR.ok (PV.fr (.l (cutL (s.xs.map .int) (some i) none))) s | _ => .stuck) Q X ↔ wO (intV v) fun i => Q (.fr (.l (cutL (s.xs.map .int) (some i) none))) s := fun v s => by
      cases v with
      | d x => cases x <;> exact Iff.rfl
      | _ => exact Iff.rfl
    refine ⟨fun h => ⟨rfl, wE_mono h (fun v s h => (key v s).mp h) (fun _ _ h => h)⟩, fun h => wE_mono h.2 (fun v s h => (key v s).mpr h) (fun _ _ h => h)⟩
  · rename_i hh
    exact ⟨fun h => h.elim, fun h => absurd h.1 hh⟩
end
theorem small_of {a b : Int} (h : -(2 ^ 64) < b ∧ b < 2 ^ 64) : (small64 a || small64 b) = true := by
  rw [Bool.or_eq_true]; exact .inr (decide_eq_true h)
theorem small_of1 {a b : Int} (h : -(2 ^ 64) < a ∧ a < 2 ^ 64) : (small64 a || small64 b) = true := by
  rw [Bool.or_eq_true]; exact .inl (decide_eq_true h)
theorem mod_in (a : Int) {n : Int} (h : 0 < n) : 0 ≤ a % n ∧ a % n < n := ⟨Int.emod_nonneg _ (by omega), Int.emod_lt_of_pos _ h⟩
theorem law_of {r : PS} {v : PV} (h : wS r (fun _ _ => False) (fun f _ _ => f = .rt v) (fun _ _ _ => False)) : ∃ e s, r = .go (.rt v) e s := by
  cases r with
  | go f e s =>
    cases f with
    | nx => exact h.elim
    | rt w => cases (show PFl.rt w = .rt v from h); exact ⟨e, s, rfl⟩
    | bk => cases (show PFl.bk = .rt v from h)
    | ct => cases (show PFl.ct = .rt v from h)
  | exc x e s => exact h.elim
  | stuck => exact h.elim
theorem take_ok {n : Int} {s : Bg} {Q : PV → Bg → Prop} {X : PEx → Bg → Prop} (hg : Good zo s) (h0 : 0 < n) (h1 : n < 1073741824) (h : ∀ v s', 0 ≤ v → v < n → Good zo s' → Q (.d (.int v)) s') : wE (P__law_take [.bag, .d (.int n)] s) Q X := by
  unfold P__law_take
  refine w_run ?_
  have e : startP 7 [.bag, .d (.int n)] = [.bag, .d (.int n), .no, .no, .no, .no, .no] := rfl
  rw [e]
  unfold q__law_take
  -- the second part
  have part2 : ∀ (s : Bg) (sl2 sl3 : Sl), Good zo s → wS ((pSeq (pIfS (b2P pGt (pBagIx 0 0) (pC (.int 0)))
(pSeq (pSetF 4 (p2 pMod (pN pInt1 (paC (pBagIx 0 0) paN)) (pV 1))) <|
pSeq (pBagSet 0 0 (p2 pFdiv (pN pInt1 (paC (pBagIx 0 0) paN)) (pV 1))) <|
pRet (pV 4))
(pNop)) <|
pSeq (pSetF 5 (p2 pMod (pN pInt1 (paC (p2 pMul (p2 pAdd (pBagIx 0 1) (pC (.int 1))) (pC (.int 39373))) paN)) (pC (.int 1000000007)))) <|
pSeq (pSetF 6 (p2 pMod (pN pInt1 (paC (p2 pMul (p2 pMod (pN pInt1 (paC (p2 pMul (pV 5) (pV 5)) paN)) (pC (.int 998244353))) (pC (.int 30011))) paN)) (pC (.int 998244353)))) <|
pRet (p2 pMod (pN pInt1 (paC (p2 pFdiv (pV 6) (pC (.int 7))) paN)) (pV 1))) [.bag, .d (.int n), sl2, sl3, .no, .no, .no] s) (fun _ s => Q (.d .none) s) (fun f _ s => match f with | .rt v => Q v s | _ => False) (fun x _ s => X x s) := by
    intro s sl2 sl3 hg
    obtain ⟨a, b, c, xs, ob⟩ := s
    obtain ⟨⟨ha, hb, hc, hx, hl⟩, ho⟩ := hg
    simp only at ha hb hc hx hl
    simp only [w_seq, w_ifS, w_setF, w_set, w_b2, w_bV, w_bAnd, w_bOr, w_bNot, w_bTrue, w_1, w_2, w_N, w_C, w_V, w_aN, w_aC, w_aS, w_call, w_If, w_And, w_Or, w_Not, w_Ch, w_bCh, w_oN, w_oS, w_Sl, w_Rv, w_Join, w_Lc, w_iV, w_iR1, w_iR2, w_nop, w_drop, w_ret, w_retN, w_bk, w_ct, w_asg, w_aug, w_par, w_app, w_ext, w_subS, w_raise, w_for, w_bagIx, w_bagSet, Bg.get, Bg.put, wO_some, wO_none, pd_slV1, pd_slV2, pd_slV3, pd_slD, pd_slL, pd_frz1, pd_frz2, pd_frzA0, pd_frzA1, pd_frzA2, pd_frzA3, pd_frzs0, pd_frzs1, pd_frzs2, pd_retV1, pd_retV2, pd_retV3, pd_oneV, pd_intV, pd_strV, pd_boolP, pd_truN, pd_truB, pd_truI, pd_lst1, pd_lst2, pd_lst3, pd_tup, pd_seq1, pd_seq2, pd_seq3, pd_seq4, pd_it1, pd_it2, pd_it3, pd_it4, pd_thaw0, pd_thaw1, pd_thaw2, pd_sets0, pd_sets1, pd_sets2, pd_setV1, pd_setV2, pd_put1, pd_put2, pd_puts0, pd_puts1, Co.toD, List.getElem?_cons_zero, List.getElem?_cons_succ, List.set_cons_zero, List.set_cons_succ, List.length_cons, List.length_nil, Option.map_some, Option.map_none, Option.bind_some, if_true, if_false, Bool.false_eq_true, true_and, and_true, Bool.not_true, Bool.not_false, decide_true, decide_false, reduceIte, implies_true, forall_const, false_implies, Bool.and_self, Bool.and_true, Bool.and_false, Bool.true_and, Bool.false_and, o_gt]
    by_cases hp : 0 < a
    · simp only [hp, decide_true, wO_some, wO_none, pd_slV1, pd_slV2, pd_slV3, pd_slD, pd_slL, pd_frz1, pd_frz2, pd_frzA0, pd_frzA1, pd_frzA2, pd_frzA3, pd_frzs0, pd_frzs1, pd_frzs2, pd_retV1, pd_retV2, pd_retV3, pd_oneV, pd_intV, pd_strV, pd_boolP, pd_truN, pd_truB, pd_truI, pd_lst1, pd_lst2, pd_lst3, pd_tup, pd_seq1, pd_seq2, pd_seq3, pd_seq4, pd_it1, pd_it2, pd_it3, pd_it4, pd_thaw0, pd_thaw1, pd_thaw2, pd_sets0, pd_sets1, pd_sets2, pd_setV1, pd_setV2, pd_put1, pd_put2, pd_puts0, pd_puts1, Co.toD, List.getElem?_cons_zero, List.getElem?_cons_succ, List.set_cons_zero, List.set_cons_succ, List.length_cons, List.length_nil, Option.map_some, Option.map_none, Option.bind_some, if_true, if_false, Bool.false_eq_true, true_and, and_true, Bool.not_true, Bool.not_false, decide_true, decide_false, reduceIte, implies_true, forall_const, false_implies, Bool.and_self, Bool.and_true, Bool.and_false, Bool.true_and, Bool.false_and, o_int, o_mod, o_fdiv, w_bagIx, Bg.get]
      refine ⟨h0, ⟨h0, h1⟩, Int.ediv_nonneg ha (by omega), ?_⟩
      have hv := mod_in a h0
      exact h _ _ hv.1 hv.2 ⟨⟨Int.ediv_nonneg ha (by omega), hb, hc, hx, hl⟩, ho⟩
    · simp only [hp, decide_false, wO_some, wO_none, pd_slV1, pd_slV2, pd_slV3, pd_slD, pd_slL, pd_frz1, pd_frz2, pd_frzA0, pd_frzA1, pd_frzA2, pd_frzA3, pd_frzs0, pd_frzs1, pd_frzs2, pd_retV1, pd_retV2, pd_retV3, pd_oneV, pd_intV, pd_strV, pd_boolP, pd_truN, pd_truB, pd_truI, pd_lst1, pd_lst2, pd_lst3, pd_tup, pd_seq1, pd_seq2, pd_seq3, pd_seq4, pd_it1, pd_it2, pd_it3, pd_it4, pd_thaw0, pd_thaw1, pd_thaw2, pd_sets0, pd_sets1, pd_sets2, pd_setV1, pd_setV2, pd_put1, pd_put2, pd_puts0, pd_puts1, Co.toD, List.getElem?_cons_zero, List.getElem?_cons_succ, List.set_cons_zero, List.set_cons_succ, List.length_cons, List.length_nil, Option.map_some, Option.map_none, Option.bind_some, if_true, if_false, Bool.false_eq_true, true_and, and_true, Bool.not_true, Bool.not_false, decide_true, decide_false, reduceIte, implies_true, forall_const, false_implies, Bool.and_self, Bool.and_true, Bool.and_false, Bool.true_and, Bool.false_and, o_int, o_mod, o_fdiv, o_add, o_mul, w_bagIx, Bg.get]
      have q1 := mod_in ((b + 1) * 39373) (n := 1000000007) (by omega)
      refine ⟨small_of (by omega), by omega, small_of (by omega), by omega, small_of (by omega), by omega, by omega, h0, ?_⟩
      have hv := mod_in ((b + 1) * 39373 % 1000000007 * ((b + 1) * 39373 % 1000000007) % 998244353 * 30011 % 998244353 / 7) h0
      exact h _ _ hv.1 hv.2 ⟨⟨ha, hb, hc, hx, hl⟩, ho⟩
  rw [w_seq]
  refine wS_mono (K := fun e s => ∃ sl2 sl3, e = [.bag, .d (.int n), sl2, sl3, .no, .no, .no] ∧ Good zo s) (Q := fun _ _ _ => False) (XS := fun _ _ _ => False) ?_ (fun e s ⟨sl2, sl3, e1, hg⟩ => by subst e1; exact part2 s sl2 sl3 hg) (fun _ _ _ h => h.elim) (fun _ _ _ h => h.elim)
  obtain ⟨a, b, c, xs, ob⟩ := s
  obtain ⟨⟨ha, hb, hc, hx, hl⟩, ho⟩ := hg
  simp only at ha hb hc hx hl
  simp only [w_ifS, w_b2, w_bagIx, w_C, Bg.get, wO_some, wO_none, pd_slV1, pd_slV2, pd_slV3, pd_slD, pd_slL, pd_frz1, pd_frz2, pd_frzA0, pd_frzA1, pd_frzA2, pd_frzA3, pd_frzs0, pd_frzs1, pd_frzs2, pd_retV1, pd_retV2, pd_retV3, pd_oneV, pd_intV, pd_strV, pd_boolP, pd_truN, pd_truB, pd_truI, pd_lst1, pd_lst2, pd_lst3, pd_tup, pd_seq1, pd_seq2, pd_seq3, pd_seq4, pd_it1, pd_it2, pd_it3, pd_it4, pd_thaw0, pd_thaw1, pd_thaw2, pd_sets0, pd_sets1, pd_sets2, pd_setV1, pd_setV2, pd_put1, pd_put2, pd_puts0, pd_puts1, Co.toD, List.getElem?_cons_zero, List.getElem?_cons_succ, List.set_cons_zero, List.set_cons_succ, List.length_cons, List.length_nil, Option.map_some, Option.map_none, Option.bind_some, if_true, if_false, Bool.false_eq_true, true_and, and_true, Bool.not_true, Bool.not_false, decide_true, decide_false, reduceIte, implies_true, forall_const, false_implies, Bool.and_self, Bool.and_true, Bool.and_false, Bool.true_and, Bool.false_and, o_eqi]
  by_cases hz : a = 0
  · subst hz
    simp only [decide_true, wO_some, wO_none, pd_slV1, pd_slV2, pd_slV3, pd_slD, pd_slL, pd_frz1, pd_frz2, pd_frzA0, pd_frzA1, pd_frzA2, pd_frzA3, pd_frzs0, pd_frzs1, pd_frzs2, pd_retV1, pd_retV2, pd_retV3, pd_oneV, pd_intV, pd_strV, pd_boolP, pd_truN, pd_truB, pd_truI, pd_lst1, pd_lst2, pd_lst3, pd_tup, pd_seq1, pd_seq2, pd_seq3, pd_seq4, pd_it1, pd_it2, pd_it3, pd_it4, pd_thaw0, pd_thaw1, pd_thaw2, pd_sets0, pd_sets1, pd_sets2, pd_setV1, pd_setV2, pd_put1, pd_put2, pd_puts0, pd_puts1, Co.toD, List.getElem?_cons_zero, List.getElem?_cons_succ, List.set_cons_zero, List.set_cons_succ, List.length_cons, List.length_nil, Option.map_some, Option.map_none, Option.bind_some, if_true, if_false, Bool.false_eq_true, true_and, and_true, Bool.not_true, Bool.not_false, decide_true, decide_false, reduceIte, implies_true, forall_const, false_implies, Bool.and_self, Bool.and_true, Bool.and_false, Bool.true_and, Bool.false_and]
    simp only [w_seq, w_setF, w_2, w_C, w_N, w_aC, w_aN, w_bagCut, w_bagIx, Bg.get, wO_some, wO_none, pd_slV1, pd_slV2, pd_slV3, pd_slD, pd_slL, pd_frz1, pd_frz2, pd_frzA0, pd_frzA1, pd_frzA2, pd_frzA3, pd_frzs0, pd_frzs1, pd_frzs2, pd_retV1, pd_retV2, pd_retV3, pd_oneV, pd_intV, pd_strV, pd_boolP, pd_truN, pd_truB, pd_truI, pd_lst1, pd_lst2, pd_lst3, pd_tup, pd_seq1, pd_seq2, pd_seq3, pd_seq4, pd_it1, pd_it2, pd_it3, pd_it4, pd_thaw0, pd_thaw1, pd_thaw2, pd_sets0, pd_sets1, pd_sets2, pd_setV1, pd_setV2, pd_put1, pd_put2, pd_puts0, pd_puts1, Co.toD, List.getElem?_cons_zero, List.getElem?_cons_succ, List.set_cons_zero, List.set_cons_succ, List.length_cons, List.length_nil, Option.map_some, Option.map_none, Option.bind_some, if_true, if_false, Bool.false_eq_true, true_and, and_true, Bool.not_true, Bool.not_false, decide_true, decide_false, reduceIte, implies_true, forall_const, false_implies, Bool.and_self, Bool.and_true, Bool.and_false, Bool.true_and, Bool.false_and, o_lst]
    refine ⟨by decide, ?_⟩
    generalize hcut : cutL (xs.map PyData.int) (some c) none = cut
    have hcl : cut.length ≤ 63 ∧ ∀ w ∈ cut, ∃ x : Int, w = .int x ∧ 0 ≤ x := by
      rw [← hcut]
      unfold cutL
      refine ⟨?_, fun w hw => ?_⟩
      · rw [List.length_take, List.length_drop, List.length_map]; omega
      · have := List.mem_of_mem_drop (List.mem_of_mem_take hw)
        obtain ⟨x, h1, h2⟩ := List.mem_map.mp this
        exact ⟨x, h2.symm, hx x h1⟩
    rw [o_cat (xs := cut) (ys := [.int 0]) rfl rfl]
    refine ⟨by show cut.length + 1 ≤ 16777216; omega, ?_⟩
    rw [o_ix (xs := cut ++ [.int 0]) rfl]
    obtain ⟨x, hx0, hxw⟩ : ∃ x : Int, 0 ≤ x ∧ atI (cut ++ [PyData.int 0]) 0 = some (.int x) := by
      cases cut with
      | nil => exact ⟨0, by omega, at_0⟩
      | cons w r =>
        obtain ⟨x, e, h2⟩ := hcl.2 w (by simp)
        exact ⟨x, h2, by rw [e]; exact at_0⟩
    rw [hxw]
    simp only [wO_some, wO_none, pd_slV1, pd_slV2, pd_slV3, pd_slD, pd_slL, pd_frz1, pd_frz2, pd_frzA0, pd_frzA1, pd_frzA2, pd_frzA3, pd_frzs0, pd_frzs1, pd_frzs2, pd_retV1, pd_retV2, pd_retV3, pd_oneV, pd_intV, pd_strV, pd_boolP, pd_truN, pd_truB, pd_truI, pd_lst1, pd_lst2, pd_lst3, pd_tup, pd_seq1, pd_seq2, pd_seq3, pd_seq4, pd_it1, pd_it2, pd_it3, pd_it4, pd_thaw0, pd_thaw1, pd_thaw2, pd_sets0, pd_sets1, pd_sets2, pd_setV1, pd_setV2, pd_put1, pd_put2, pd_puts0, pd_puts1, Co.toD, List.getElem?_cons_zero, List.getElem?_cons_succ, List.set_cons_zero, List.set_cons_succ, List.length_cons, List.length_nil, Option.map_some, Option.map_none, Option.bind_some, if_true, if_false, Bool.false_eq_true, true_and, and_true, Bool.not_true, Bool.not_false, decide_true, decide_false, reduceIte, implies_true, forall_const, false_implies, Bool.and_self, Bool.and_true, Bool.and_false, Bool.true_and, Bool.false_and, w_bagAug, Bg.get, Bg.put]
    refine ⟨by omega, ?_⟩
    simp only [w_ifS, w_b2, w_2, w_C, w_V, wO_some, wO_none, pd_slV1, pd_slV2, pd_slV3, pd_slD, pd_slL, pd_frz1, pd_frz2, pd_frzA0, pd_frzA1, pd_frzA2, pd_frzA3, pd_frzs0, pd_frzs1, pd_frzs2, pd_retV1, pd_retV2, pd_retV3, pd_oneV, pd_intV, pd_strV, pd_boolP, pd_truN, pd_truB, pd_truI, pd_lst1, pd_lst2, pd_lst3, pd_tup, pd_seq1, pd_seq2, pd_seq3, pd_seq4, pd_it1, pd_it2, pd_it3, pd_it4, pd_thaw0, pd_thaw1, pd_thaw2, pd_sets0, pd_sets1, pd_sets2, pd_setV1, pd_setV2, pd_put1, pd_put2, pd_puts0, pd_puts1, Co.toD, List.getElem?_cons_zero, List.getElem?_cons_succ, List.set_cons_zero, List.set_cons_succ, List.length_cons, List.length_nil, Option.map_some, Option.map_none, Option.bind_some, if_true, if_false, Bool.false_eq_true, true_and, and_true, Bool.not_true, Bool.not_false, decide_true, decide_false, reduceIte, implies_true, forall_const, false_implies, Bool.and_self, Bool.and_true, Bool.and_false, Bool.true_and, Bool.false_and, o_pow, o_ge]
    refine ⟨by decide, ?_⟩
    by_cases hbig : (10 : Int) ^ (Int.toNat 18) ≤ x
    · simp only [hbig, decide_true, w_seq, w_ifS, w_setF, w_set, w_b2, w_bV, w_bAnd, w_bOr, w_bNot, w_bTrue, w_1, w_2, w_N, w_C, w_V, w_aN, w_aC, w_aS, w_call, w_If, w_And, w_Or, w_Not, w_Ch, w_bCh, w_oN, w_oS, w_Sl, w_Rv, w_Join, w_Lc, w_iV, w_iR1, w_iR2, w_nop, w_drop, w_ret, w_retN, w_bk, w_ct, w_asg, w_aug, w_par, w_app, w_ext, w_subS, w_raise, w_for, w_bagIx, w_bagSet, Bg.get, Bg.put, wO_some, wO_none, pd_slV1, pd_slV2, pd_slV3, pd_slD, pd_slL, pd_frz1, pd_frz2, pd_frzA0, pd_frzA1, pd_frzA2, pd_frzA3, pd_frzs0, pd_frzs1, pd_frzs2, pd_retV1, pd_retV2, pd_retV3, pd_oneV, pd_intV, pd_strV, pd_boolP, pd_truN, pd_truB, pd_truI, pd_lst1, pd_lst2, pd_lst3, pd_tup, pd_seq1, pd_seq2, pd_seq3, pd_seq4, pd_it1, pd_it2, pd_it3, pd_it4, pd_thaw0, pd_thaw1, pd_thaw2, pd_sets0, pd_sets1, pd_sets2, pd_setV1, pd_setV2, pd_put1, pd_put2, pd_puts0, pd_puts1, Co.toD, List.getElem?_cons_zero, List.getElem?_cons_succ, List.set_cons_zero, List.set_cons_succ, List.length_cons, List.length_nil, Option.map_some, Option.map_none, Option.bind_some, if_true, if_false, Bool.false_eq_true, true_and, and_true, Bool.not_true, Bool.not_false, decide_true, decide_false, reduceIte, implies_true, forall_const, false_implies, Bool.and_self, Bool.and_true, Bool.and_false, Bool.true_and, Bool.false_and, o_mul, o_int, o_mod, o_add]
      exact ⟨hx0, small_of (by omega), by omega, small_of1 (by omega), by omega, (mod_in _ (by omega)).1, _, _, rfl, ⟨hx0, (mod_in _ (by omega)).1, by show 0 ≤ c + 1; omega, hx, hl⟩, ho⟩
    · simp only [hbig, decide_false, w_seq, w_ifS, w_setF, w_set, w_b2, w_bV, w_bAnd, w_bOr, w_bNot, w_bTrue, w_1, w_2, w_N, w_C, w_V, w_aN, w_aC, w_aS, w_call, w_If, w_And, w_Or, w_Not, w_Ch, w_bCh, w_oN, w_oS, w_Sl, w_Rv, w_Join, w_Lc, w_iV, w_iR1, w_iR2, w_nop, w_drop, w_ret, w_retN, w_bk, w_ct, w_asg, w_aug, w_par, w_app, w_ext, w_subS, w_raise, w_for, w_bagIx, w_bagSet, Bg.get, Bg.put, wO_some, wO_none, pd_slV1, pd_slV2, pd_slV3, pd_slD, pd_slL, pd_frz1, pd_frz2, pd_frzA0, pd_frzA1, pd_frzA2, pd_frzA3, pd_frzs0, pd_frzs1, pd_frzs2, pd_retV1, pd_retV2, pd_retV3, pd_oneV, pd_intV, pd_strV, pd_boolP, pd_truN, pd_truB, pd_truI, pd_lst1, pd_lst2, pd_lst3, pd_tup, pd_seq1, pd_seq2, pd_seq3, pd_seq4, pd_it1, pd_it2, pd_it3, pd_it4, pd_thaw0, pd_thaw1, pd_thaw2, pd_sets0, pd_sets1, pd_sets2, pd_setV1, pd_setV2, pd_put1, pd_put2, pd_puts0, pd_puts1, Co.toD, List.getElem?_cons_zero, List.getElem?_cons_succ, List.set_cons_zero, List.set_cons_succ, List.length_cons, List.length_nil, Option.map_some, Option.map_none, Option.bind_some, if_true, if_false, Bool.false_eq_true, true_and, and_true, Bool.not_true, Bool.not_false, decide_true, decide_false, reduceIte, implies_true, forall_const, false_implies, Bool.and_self, Bool.and_true, Bool.and_false, Bool.true_and, Bool.false_and, o_mul, o_int, o_mod, o_add]
      exact ⟨small_of (by omega), by omega, small_of1 (by omega), by omega, (mod_in _ (by omega)).1, _, _, rfl, ⟨Int.le_refl 0, (mod_in _ (by omega)).1, by show 0 ≤ c + 1; omega, hx, hl⟩, ho⟩
  · simp only [hz, decide_false, wO_some, wO_none, pd_slV1, pd_slV2, pd_slV3, pd_slD, pd_slL, pd_frz1, pd_frz2, pd_frzA0, pd_frzA1, pd_frzA2, pd_frzA3, pd_frzs0, pd_frzs1, pd_frzs2, pd_retV1, pd_retV2, pd_retV3, pd_oneV, pd_intV, pd_strV, pd_boolP, pd_truN, pd_truB, pd_truI, pd_lst1, pd_lst2, pd_lst3, pd_tup, pd_seq1, pd_seq2, pd_seq3, pd_seq4, pd_it1, pd_it2, pd_it3, pd_it4, pd_thaw0, pd_thaw1, pd_thaw2, pd_sets0, pd_sets1, pd_sets2, pd_setV1, pd_setV2, pd_put1, pd_put2, pd_puts0, pd_puts1, Co.toD, List.getElem?_cons_zero, List.getElem?_cons_succ, List.set_cons_zero, List.set_cons_succ, List.length_cons, List.length_nil, Option.map_some, Option.map_none, Option.bind_some, if_true, if_false, Bool.false_eq_true, true_and, and_true, Bool.not_true, Bool.not_false, decide_true, decide_false, reduceIte, implies_true, forall_const, false_implies, Bool.and_self, Bool.and_true, Bool.and_false, Bool.true_and, Bool.false_and, w_nop]
    exact ⟨_, _, rfl, ⟨ha, hb, hc, hx, hl⟩, ho⟩
theorem take_okN {n : Int} {s : Bg} {Q : PV → Bg → Prop} {X : PEx → Bg → Prop} (hg : Good zo s) (h0 : 0 < n) (h1 : n < 1073741824) (h : ∀ (v : Nat) s', (v : Int) < n → Good zo s' → Q (.d (.int (v : Int))) s') : wE (P__law_take [.bag, .d (.int n)] s) Q X :=
  take_ok hg h0 h1 fun v s' a b g => by
    have e : ((v.toNat : Nat) : Int) = v := Int.toNat_of_nonneg a
    have k := h v.toNat s' (by rw [e]; exact b) g
    rw [e] at k
    exact k
theorem some_ok {v : PyData} {xs : List PyData} {s : Bg} {Q : PV → Bg → Prop} {X : PEx → Bg → Prop} (hg : Good zo s) (hs : seqP (.d v) = some xs) (h0 : 0 < xs.length) (h1 : xs.length < 1073741824) (h : ∀ (k : Nat) y s', xs[k]? = some y → Good zo s' → Q (.d y) s') : wE (P__law_some [.bag, .d v] s) Q X := by
  unfold P__law_some
  refine w_run ?_
  have e : startP 2 [.bag, .d v] = [.bag, .d v] := rfl
  rw [e]
  unfold q__law_some
  simp only [w_ret, w_2, w_call, w_aC, w_aN, w_V, w_N, wO_some, wO_none, pd_slV1, pd_slV2, pd_slV3, pd_slD, pd_slL, pd_frz1, pd_frz2, pd_frzA0, pd_frzA1, pd_frzA2, pd_frzA3, pd_frzs0, pd_frzs1, pd_frzs2, pd_retV1, pd_retV2, pd_retV3, pd_oneV, pd_intV, pd_strV, pd_boolP, pd_truN, pd_truB, pd_truI, pd_lst1, pd_lst2, pd_lst3, pd_tup, pd_seq1, pd_seq2, pd_seq3, pd_seq4, pd_it1, pd_it2, pd_it3, pd_it4, pd_thaw0, pd_thaw1, pd_thaw2, pd_sets0, pd_sets1, pd_sets2, pd_setV1, pd_setV2, pd_put1, pd_put2, pd_puts0, pd_puts1, Co.toD, List.getElem?_cons_zero, List.getElem?_cons_succ, List.set_cons_zero, List.set_cons_succ, List.length_cons, List.length_nil, Option.map_some, Option.map_none, Option.bind_some, if_true, if_false, Bool.false_eq_true, true_and, and_true, Bool.not_true, Bool.not_false, decide_true, decide_false, reduceIte, implies_true, forall_const, false_implies, Bool.and_self, Bool.and_true, Bool.and_false, Bool.true_and, Bool.false_and, o_len hs]
  refine take_ok hg (by omega) (by omega) fun k s1 k0 k1 hg1 => ?_
  rw [o_ix hs]
  obtain ⟨j, rfl⟩ : ∃ j : Nat, k = (j : Int) := ⟨k.toNat, by omega⟩
  have hj : j < xs.length := by omega
  rw [at_nat hj, List.getElem?_eq_getElem hj]
  simp only [wO_some, wO_none, pd_slV1, pd_slV2, pd_slV3, pd_slD, pd_slL, pd_frz1, pd_frz2, pd_frzA0, pd_frzA1, pd_frzA2, pd_frzA3, pd_frzs0, pd_frzs1, pd_frzs2, pd_retV1, pd_retV2, pd_retV3, pd_oneV, pd_intV, pd_strV, pd_boolP, pd_truN, pd_truB, pd_truI, pd_lst1, pd_lst2, pd_lst3, pd_tup, pd_seq1, pd_seq2, pd_seq3, pd_seq4, pd_it1, pd_it2, pd_it3, pd_it4, pd_thaw0, pd_thaw1, pd_thaw2, pd_sets0, pd_sets1, pd_sets2, pd_setV1, pd_setV2, pd_put1, pd_put2, pd_puts0, pd_puts1, Co.toD, List.getElem?_cons_zero, List.getElem?_cons_succ, List.set_cons_zero, List.set_cons_succ, List.length_cons, List.length_nil, Option.map_some, Option.map_none, Option.bind_some, if_true, if_false, Bool.false_eq_true, true_and, and_true, Bool.not_true, Bool.not_false, decide_true, decide_false, reduceIte, implies_true, forall_const, false_implies, Bool.and_self, Bool.and_true, Bool.and_false, Bool.true_and, Bool.false_and]
  exact h j _ s1 (List.getElem?_eq_getElem hj) hg1
end PD
set_option Elab.async false
set_option linter.all false
set_option maxRecDepth 100000
set_option maxHeartbeats 4000000
namespace PD
open PySem PySem.Spec PyProof.Rows L2 DL Hn
mutual
/-- data without a dict -/
def plD : PyData → Bool
  | .none => true | .bool _ => true | .int _ => true | .str _ => true
  | .tuple ds => plDs ds
  | .list ds => plDs ds
  | .dict _ => false
def plDs : List PyData → Bool
  | [] => true
  | x :: r => plD x && plDs r
end
theorem plDs_iff : ∀ {ds : List PyData}, plDs ds = true ↔ ∀ d ∈ ds, plD d = true
  | [] => by simp [plDs]
  | x :: r => by
    rw [plDs, Bool.and_eq_true, plDs_iff]
    simp
def itemsD : PyData → List PyData
  | .tuple ds => ds
  | .list ds => ds
  | _ => []
theorem psz_items (y : PyData) : psz y = pszs (itemsD y) + 1 := by cases y <;> simp [psz, itemsD, pszs]
theorem eqv_leaf {y : PyData} (h : flatD y = true) : scalD y y = true ∧ PyData.eqv y y = true := by
  cases y <;> first | (cases h; done) | exact ⟨rfl, by simp [PyData.eqv]⟩
def pairD (y : PyData) : PyData := .tuple [y, y]
theorem zip_self (cs : List PyData) : (cs.zip cs).map (fun p => PyData.tuple [p.1, p.2]) = cs.map pairD := by
  induction cs with
  | nil => rfl
  | cons c cs ih => rw [List.zip_cons_cons, List.map_cons, List.map_cons, ih]; rfl
theorem isT_seq (y : PyData) : (["tuple", "list"].any (isT (tyD y)) = true) ↔ (∃ ds, y = .tuple ds) ∨ ∃ ds, y = .list ds := by
  cases y <;> simp [tyD, isT]
theorem o_lz1 {a b : PV} {xs ys : List PyData} {Q : PV → Prop} (h : lstP a = some xs) (h2 : lstP b = some ys) : wO (pLz [a, b]) Q ↔ Q (.fr (.l ((xs.zip ys).map fun p => .tuple [p.1, p.2]))) := by
  show wO (match lstP a, lstP b with
    | some xs, some ys => some (PV.fr (.l ((xs.zip ys).map fun p => .tuple [p.1, p.2])))
    | _, _ => match tupP a, tupP b with
      | some xs, some ys => some (.fr (.l ((xs.zip ys).map fun p => .tuple [p.1, p.2])))
      | _, _ => none) Q ↔ _
  rw [h, h2, wO_some]
theorem o_lz2 {xs ys : List PyData} {Q : PV → Prop} : wO (pLz [.d (.tuple xs), .d (.tuple ys)]) Q ↔ Q (.fr (.l ((xs.zip ys).map fun p => .tuple [p.1, p.2]))) := by
  have e : pLz [.d (.tuple xs), .d (.tuple ys)] = some (.fr (.l ((xs.zip ys).map fun p => .tuple [p.1, p.2]))) := rfl
  rw [e, wO_some]
theorem pszs_drop {ys : List PyData} {k : Nat} {y : PyData} (h : ys[k]? = some y) : pszs (ys.drop k) = psz y + pszs (ys.drop (k + 1)) := by
  obtain ⟨hk, e⟩ := List.getElem?_eq_some_iff.mp h
  rw [List.drop_eq_getElem_cons hk, e]
  rfl
/-- a value is like itself -/
theorem alike_self {x : PyData} {s : Bg} (hp : plD x = true) (hz : psz x ≤ LIM) : P__law_alike [.d x, .d x] s = .ok (.d (.bool true)) s := by
  unfold P__law_alike
  refine run_eq ?_
  have e : startP 6 [.d x, .d x] = [.d x, .d x, .no, .no, .no, .no] := rfl
  rw [e]
  unfold q__law_alike
  rw [w_seq, w_par]
  simp only [w_seq, w_ifS, w_setF, w_set, w_b2, w_bV, w_bAnd, w_bOr, w_bNot, w_bTrue, w_1, w_2, w_N, w_C, w_V, w_aN, w_aC, w_aS, w_call, w_If, w_And, w_Or, w_Not, w_Ch, w_bCh, w_oN, w_oS, w_Sl, w_Rv, w_Join, w_Lc, w_iV, w_iR1, w_iR2, w_nop, w_drop, w_ret, w_retN, w_bk, w_ct, w_asg, w_aug, w_par, w_app, w_ext, w_subS, w_raise, w_for, wO_some, wO_none, pd_slV1, pd_slV2, pd_slV3, pd_slD, pd_slL, pd_frz1, pd_frz2, pd_frzA0, pd_frzA1, pd_frzA2, pd_frzA3, pd_frzs0, pd_frzs1, pd_frzs2, pd_retV1, pd_retV2, pd_retV3, pd_oneV, pd_intV, pd_strV, pd_boolP, pd_truN, pd_truB, pd_truI, pd_lst1, pd_lst2, pd_lst3, pd_tup, pd_seq1, pd_seq2, pd_seq3, pd_seq4, pd_it1, pd_it2, pd_it3, pd_it4, pd_thaw0, pd_thaw1, pd_thaw2, pd_sets0, pd_sets1, pd_sets2, pd_setV1, pd_setV2, pd_put1, pd_put2, pd_puts0, pd_puts1, Co.toD, List.getElem?_cons_zero, List.getElem?_cons_succ, List.set_cons_zero, List.set_cons_succ, List.length_cons, List.length_nil, Option.map_some, Option.map_none, Option.bind_some, if_true, if_false, Bool.false_eq_true, true_and, and_true, Bool.not_true, Bool.not_false, decide_true, decide_false, reduceIte, implies_true, forall_const, false_implies, Bool.and_self, Bool.and_true, Bool.and_false, Bool.true_and, Bool.false_and, o_tup, o_lst]
  refine ⟨(by decide : 2 ≤ 16777216), (by decide : 1 ≤ 16777216), ?_⟩
  refine w_while (fun k e s1 => ∃ (ys : List PyData) (at_ : Nat) (sl4 sl5 : Sl), e = [.d x, .d x, .own (.l (ys.map pairD)), .d (.int at_), sl4, sl5] ∧ s1 = s ∧ (∀ y ∈ ys, plD y = true) ∧ at_ ≤ ys.length ∧ at_ + pszs (ys.drop at_) = psz x ∧ k = pszs (ys.drop at_)) ?_ (psz x) _ _ ⟨[x], 0, .no, .no, rfl, rfl, by simpa using hp, by simp, by simp [pszs], by simp [pszs]⟩
  rintro k e s1 ⟨ys, at_, sl4, sl5, rfl, rfl, hpl, hat, hsum, rfl⟩
  simp only [w_b2, w_V, w_N, w_aC, w_aN, wO_some, wO_none, pd_slV1, pd_slV2, pd_slV3, pd_slD, pd_slL, pd_frz1, pd_frz2, pd_frzA0, pd_frzA1, pd_frzA2, pd_frzA3, pd_frzs0, pd_frzs1, pd_frzs2, pd_retV1, pd_retV2, pd_retV3, pd_oneV, pd_intV, pd_strV, pd_boolP, pd_truN, pd_truB, pd_truI, pd_lst1, pd_lst2, pd_lst3, pd_tup, pd_seq1, pd_seq2, pd_seq3, pd_seq4, pd_it1, pd_it2, pd_it3, pd_it4, pd_thaw0, pd_thaw1, pd_thaw2, pd_sets0, pd_sets1, pd_sets2, pd_setV1, pd_setV2, pd_put1, pd_put2, pd_puts0, pd_puts1, Co.toD, List.getElem?_cons_zero, List.getElem?_cons_succ, List.set_cons_zero, List.set_cons_succ, List.length_cons, List.length_nil, Option.map_some, Option.map_none, Option.bind_some, if_true, if_false, Bool.false_eq_true, true_and, and_true, Bool.not_true, Bool.not_false, decide_true, decide_false, reduceIte, implies_true, forall_const, false_implies, Bool.and_self, Bool.and_true, Bool.and_false, Bool.true_and, Bool.false_and, o_lenB, o_lt, List.length_map]
  by_cases hlt : at_ < ys.length
  · have h1 : ((at_ : Int) < (ys.length : Int)) := by omega
    simp only [h1, decide_true, wO_some, wO_none, pd_slV1, pd_slV2, pd_slV3, pd_slD, pd_slL, pd_frz1, pd_frz2, pd_frzA0, pd_frzA1, pd_frzA2, pd_frzA3, pd_frzs0, pd_frzs1, pd_frzs2, pd_retV1, pd_retV2, pd_retV3, pd_oneV, pd_intV, pd_strV, pd_boolP, pd_truN, pd_truB, pd_truI, pd_lst1, pd_lst2, pd_lst3, pd_tup, pd_seq1, pd_seq2, pd_seq3, pd_seq4, pd_it1, pd_it2, pd_it3, pd_it4, pd_thaw0, pd_thaw1, pd_thaw2, pd_sets0, pd_sets1, pd_sets2, pd_setV1, pd_setV2, pd_put1, pd_put2, pd_puts0, pd_puts1, Co.toD, List.getElem?_cons_zero, List.getElem?_cons_succ, List.set_cons_zero, List.set_cons_succ, List.length_cons, List.length_nil, Option.map_some, Option.map_none, Option.bind_some, if_true, if_false, Bool.false_eq_true, true_and, and_true, Bool.not_true, Bool.not_false, decide_true, decide_false, reduceIte, implies_true, forall_const, false_implies, Bool.and_self, Bool.and_true, Bool.and_false, Bool.true_and, Bool.false_and]
    have hy := List.getElem?_eq_getElem hlt
    generalize ys[at_] = y at hy
    have hyp : plD y = true := hpl y (List.mem_of_getElem? hy)
    have hnd : notDk y = true := by
      cases y with
      | dict _ => cases hyp
      | _ => rfl
    have hdrop := pszs_drop hy
    have hpos := psz_pos y
    have hl2 := pszs_len (ys.drop (at_ + 1))
    rw [List.length_drop] at hl2
    simp only [w_seq, w_asg, w_2, w_V, wO_some, wO_none, pd_slV1, pd_slV2, pd_slV3, pd_slD, pd_slL, pd_frz1, pd_frz2, pd_frzA0, pd_frzA1, pd_frzA2, pd_frzA3, pd_frzs0, pd_frzs1, pd_frzs2, pd_retV1, pd_retV2, pd_retV3, pd_oneV, pd_intV, pd_strV, pd_boolP, pd_truN, pd_truB, pd_truI, pd_lst1, pd_lst2, pd_lst3, pd_tup, pd_seq1, pd_seq2, pd_seq3, pd_seq4, pd_it1, pd_it2, pd_it3, pd_it4, pd_thaw0, pd_thaw1, pd_thaw2, pd_sets0, pd_sets1, pd_sets2, pd_setV1, pd_setV2, pd_put1, pd_put2, pd_puts0, pd_puts1, Co.toD, List.getElem?_cons_zero, List.getElem?_cons_succ, List.set_cons_zero, List.set_cons_succ, List.length_cons, List.length_nil, Option.map_some, Option.map_none, Option.bind_some, if_true, if_false, Bool.false_eq_true, true_and, and_true, Bool.not_true, Bool.not_false, decide_true, decide_false, reduceIte, implies_true, forall_const, false_implies, Bool.and_self, Bool.and_true, Bool.and_false, Bool.true_and, Bool.false_and]
    rw [o_ix (xs := ys.map pairD) rfl, at_nat (by simpa using hlt), List.getElem?_map, hy]
    simp only [wO_some, wO_none, pd_slV1, pd_slV2, pd_slV3, pd_slD, pd_slL, pd_frz1, pd_frz2, pd_frzA0, pd_frzA1, pd_frzA2, pd_frzA3, pd_frzs0, pd_frzs1, pd_frzs2, pd_retV1, pd_retV2, pd_retV3, pd_oneV, pd_intV, pd_strV, pd_boolP, pd_truN, pd_truB, pd_truI, pd_lst1, pd_lst2, pd_lst3, pd_tup, pd_seq1, pd_seq2, pd_seq3, pd_seq4, pd_it1, pd_it2, pd_it3, pd_it4, pd_thaw0, pd_thaw1, pd_thaw2, pd_sets0, pd_sets1, pd_sets2, pd_setV1, pd_setV2, pd_put1, pd_put2, pd_puts0, pd_puts1, Co.toD, List.getElem?_cons_zero, List.getElem?_cons_succ, List.set_cons_zero, List.set_cons_succ, List.length_cons, List.length_nil, Option.map_some, Option.map_none, Option.bind_some, if_true, if_false, Bool.false_eq_true, true_and, and_true, Bool.not_true, Bool.not_false, decide_true, decide_false, reduceIte, implies_true, forall_const, false_implies, Bool.and_self, Bool.and_true, Bool.and_false, Bool.true_and, Bool.false_and, pairD, w_aug, w_C, o_iadd, w_ifS, w_bOr, w_b2, w_1, w_V, o_isi, hnd, true_and, o_neb, w_bV, beq_self_eq_true, w_nop]
    have step : ∀ cs : List PyData, itemsD y = cs → (∀ c ∈ cs, plD c = true) → ∃ j, j < pszs (ys.drop at_) ∧ ∃ (ys' : List PyData) (at' : Nat) (sl4 sl5 : Sl), ([Sl.d x, .d x, .own (.l ((ys.map pairD) ++ cs.map pairD)), .d (.int ((at_ : Int) + 1)), .d y, .d y] : PEnv) = [.d x, .d x, .own (.l (ys'.map pairD)), .d (.int at'), sl4, sl5] ∧ (∀ y ∈ ys', plD y = true) ∧ at' ≤ ys'.length ∧ at' + pszs (ys'.drop at') = psz x ∧ j = pszs (ys'.drop at') := fun cs hcs hcp => by
      have e1 := psz_items y
      rw [hcs] at e1
      have e2 : pszs ((ys ++ cs).drop (at_ + 1)) = pszs (ys.drop (at_ + 1)) + pszs cs := by
        rw [List.drop_append_of_le_length (by omega), pszs_append]
      refine ⟨_, ?_, ys ++ cs, at_ + 1, .d y, .d y, by rw [List.map_append]; rfl, fun z hz => ?_, by rw [List.length_append]; omega, by rw [e2]; omega, rfl⟩
      · rw [e2]; omega
      · rcases List.mem_append.mp hz with h | h
        · exact hpl z h
        · exact hcp z h
    have hlim : ∀ cs : List PyData, itemsD y = cs → (ys.map pairD).length + (cs.map pairD).length ≤ LIM := fun cs hcs => by
      have e1 := psz_items y
      rw [hcs] at e1
      have := pszs_len cs
      rw [List.length_map, List.length_map]
      omega
    by_cases hseq : ["tuple", "list"].any (isT (tyD y)) = true
    · simp only [hseq, wO_some, wO_none, pd_slV1, pd_slV2, pd_slV3, pd_slD, pd_slL, pd_frz1, pd_frz2, pd_frzA0, pd_frzA1, pd_frzA2, pd_frzA3, pd_frzs0, pd_frzs1, pd_frzs2, pd_retV1, pd_retV2, pd_retV3, pd_oneV, pd_intV, pd_strV, pd_boolP, pd_truN, pd_truB, pd_truI, pd_lst1, pd_lst2, pd_lst3, pd_tup, pd_seq1, pd_seq2, pd_seq3, pd_seq4, pd_it1, pd_it2, pd_it3, pd_it4, pd_thaw0, pd_thaw1, pd_thaw2, pd_sets0, pd_sets1, pd_sets2, pd_setV1, pd_setV2, pd_put1, pd_put2, pd_puts0, pd_puts1, Co.toD, List.getElem?_cons_zero, List.getElem?_cons_succ, List.set_cons_zero, List.set_cons_succ, List.length_cons, List.length_nil, Option.map_some, Option.map_none, Option.bind_some, if_true, if_false, Bool.false_eq_true, true_and, and_true, Bool.not_true, Bool.not_false, decide_true, decide_false, reduceIte, implies_true, forall_const, false_implies, Bool.and_self, Bool.and_true, Bool.and_false, Bool.true_and, Bool.false_and]
      rcases (isT_seq y).mp hseq with ⟨ds, rfl⟩ | ⟨ds, rfl⟩
      · simp only [w_seq, w_ifS, w_bOr, w_b2, w_1, w_V, w_N, w_aC, w_aN, w_ext, wO_some, wO_none, pd_slV1, pd_slV2, pd_slV3, pd_slD, pd_slL, pd_frz1, pd_frz2, pd_frzA0, pd_frzA1, pd_frzA2, pd_frzA3, pd_frzs0, pd_frzs1, pd_frzs2, pd_retV1, pd_retV2, pd_retV3, pd_oneV, pd_intV, pd_strV, pd_boolP, pd_truN, pd_truB, pd_truI, pd_lst1, pd_lst2, pd_lst3, pd_tup, pd_seq1, pd_seq2, pd_seq3, pd_seq4, pd_it1, pd_it2, pd_it3, pd_it4, pd_thaw0, pd_thaw1, pd_thaw2, pd_sets0, pd_sets1, pd_sets2, pd_setV1, pd_setV2, pd_put1, pd_put2, pd_puts0, pd_puts1, Co.toD, List.getElem?_cons_zero, List.getElem?_cons_succ, List.set_cons_zero, List.set_cons_succ, List.length_cons, List.length_nil, Option.map_some, Option.map_none, Option.bind_some, if_true, if_false, Bool.false_eq_true, true_and, and_true, Bool.not_true, Bool.not_false, decide_true, decide_false, reduceIte, implies_true, forall_const, false_implies, Bool.and_self, Bool.and_true, Bool.and_false, Bool.true_and, Bool.false_and, o_isi, nd_tup, true_and, o_neb, o_lenT, o_nei, beq_self_eq_true, w_nop, o_lz2, zip_self]
        exact ⟨hlim ds rfl, step ds rfl (plDs_iff.mp hyp)⟩
      · simp only [w_seq, w_ifS, w_bOr, w_b2, w_1, w_V, w_N, w_aC, w_aN, w_ext, wO_some, wO_none, pd_slV1, pd_slV2, pd_slV3, pd_slD, pd_slL, pd_frz1, pd_frz2, pd_frzA0, pd_frzA1, pd_frzA2, pd_frzA3, pd_frzs0, pd_frzs1, pd_frzs2, pd_retV1, pd_retV2, pd_retV3, pd_oneV, pd_intV, pd_strV, pd_boolP, pd_truN, pd_truB, pd_truI, pd_lst1, pd_lst2, pd_lst3, pd_tup, pd_seq1, pd_seq2, pd_seq3, pd_seq4, pd_it1, pd_it2, pd_it3, pd_it4, pd_thaw0, pd_thaw1, pd_thaw2, pd_sets0, pd_sets1, pd_sets2, pd_setV1, pd_setV2, pd_put1, pd_put2, pd_puts0, pd_puts1, Co.toD, List.getElem?_cons_zero, List.getElem?_cons_succ, List.set_cons_zero, List.set_cons_succ, List.length_cons, List.length_nil, Option.map_some, Option.map_none, Option.bind_some, if_true, if_false, Bool.false_eq_true, true_and, and_true, Bool.not_true, Bool.not_false, decide_true, decide_false, reduceIte, implies_true, forall_const, false_implies, Bool.and_self, Bool.and_true, Bool.and_false, Bool.true_and, Bool.false_and, o_isi, nd_lst, true_and, o_neb, o_lenL, o_nei, beq_self_eq_true, w_nop]
        rw [o_lz1 (xs := ds) (ys := ds) rfl rfl, zip_self]
        simp only [wO_some, wO_none, pd_slV1, pd_slV2, pd_slV3, pd_slD, pd_slL, pd_frz1, pd_frz2, pd_frzA0, pd_frzA1, pd_frzA2, pd_frzA3, pd_frzs0, pd_frzs1, pd_frzs2, pd_retV1, pd_retV2, pd_retV3, pd_oneV, pd_intV, pd_strV, pd_boolP, pd_truN, pd_truB, pd_truI, pd_lst1, pd_lst2, pd_lst3, pd_tup, pd_seq1, pd_seq2, pd_seq3, pd_seq4, pd_it1, pd_it2, pd_it3, pd_it4, pd_thaw0, pd_thaw1, pd_thaw2, pd_sets0, pd_sets1, pd_sets2, pd_setV1, pd_setV2, pd_put1, pd_put2, pd_puts0, pd_puts1, Co.toD, List.getElem?_cons_zero, List.getElem?_cons_succ, List.set_cons_zero, List.set_cons_succ, List.length_cons, List.length_nil, Option.map_some, Option.map_none, Option.bind_some, if_true, if_false, Bool.false_eq_true, true_and, and_true, Bool.not_true, Bool.not_false, decide_true, decide_false, reduceIte, implies_true, forall_const, false_implies, Bool.and_self, Bool.and_true, Bool.and_false, Bool.true_and, Bool.false_and]
        exact ⟨hlim ds rfl, step ds rfl (plDs_iff.mp hyp)⟩
    · have hs : ["tuple", "list"].any (isT (tyD y)) = false := by simpa using hseq
      have hf : flatD y = true := by
        cases y with
        | tuple _ => simp [tyD, isT] at hs
        | list _ => simp [tyD, isT] at hs
        | dict _ => cases hyp
        | _ => rfl
      have hl := eqv_leaf hf
      simp only [hs, wO_some, wO_none, pd_slV1, pd_slV2, pd_slV3, pd_slD, pd_slL, pd_frz1, pd_frz2, pd_frzA0, pd_frzA1, pd_frzA2, pd_frzA3, pd_frzs0, pd_frzs1, pd_frzs2, pd_retV1, pd_retV2, pd_retV3, pd_oneV, pd_intV, pd_strV, pd_boolP, pd_truN, pd_truB, pd_truI, pd_lst1, pd_lst2, pd_lst3, pd_tup, pd_seq1, pd_seq2, pd_seq3, pd_seq4, pd_it1, pd_it2, pd_it3, pd_it4, pd_thaw0, pd_thaw1, pd_thaw2, pd_sets0, pd_sets1, pd_sets2, pd_setV1, pd_setV2, pd_put1, pd_put2, pd_puts0, pd_puts1, Co.toD, List.getElem?_cons_zero, List.getElem?_cons_succ, List.set_cons_zero, List.set_cons_succ, List.length_cons, List.length_nil, Option.map_some, Option.map_none, Option.bind_some, if_true, if_false, Bool.false_eq_true, true_and, and_true, Bool.not_true, Bool.not_false, decide_true, decide_false, reduceIte, implies_true, forall_const, false_implies, Bool.and_self, Bool.and_true, Bool.and_false, Bool.true_and, Bool.false_and]
      rw [o_neW (x := y) (y := y) rfl rfl (by rw [hl.1]; rfl), hl.2]
      simp only [wO_some, wO_none, pd_slV1, pd_slV2, pd_slV3, pd_slD, pd_slL, pd_frz1, pd_frz2, pd_frzA0, pd_frzA1, pd_frzA2, pd_frzA3, pd_frzs0, pd_frzs1, pd_frzs2, pd_retV1, pd_retV2, pd_retV3, pd_oneV, pd_intV, pd_strV, pd_boolP, pd_truN, pd_truB, pd_truI, pd_lst1, pd_lst2, pd_lst3, pd_tup, pd_seq1, pd_seq2, pd_seq3, pd_seq4, pd_it1, pd_it2, pd_it3, pd_it4, pd_thaw0, pd_thaw1, pd_thaw2, pd_sets0, pd_sets1, pd_sets2, pd_setV1, pd_setV2, pd_put1, pd_put2, pd_puts0, pd_puts1, Co.toD, List.getElem?_cons_zero, List.getElem?_cons_succ, List.set_cons_zero, List.set_cons_succ, List.length_cons, List.length_nil, Option.map_some, Option.map_none, Option.bind_some, if_true, if_false, Bool.false_eq_true, true_and, and_true, Bool.not_true, Bool.not_false, decide_true, decide_false, reduceIte, implies_true, forall_const, false_implies, Bool.and_self, Bool.and_true, Bool.and_false, Bool.true_and, Bool.false_and, w_nop]
      have hi : itemsD y = [] := by cases y <;> first | rfl | (cases hf; done)
      have := step [] hi (by simp)
      simpa using this
  · have h1 : ¬ ((at_ : Int) < (ys.length : Int)) := by omega
    simp only [h1, decide_false, wO_some, wO_none, pd_slV1, pd_slV2, pd_slV3, pd_slD, pd_slL, pd_frz1, pd_frz2, pd_frzA0, pd_frzA1, pd_frzA2, pd_frzA3, pd_frzs0, pd_frzs1, pd_frzs2, pd_retV1, pd_retV2, pd_retV3, pd_oneV, pd_intV, pd_strV, pd_boolP, pd_truN, pd_truB, pd_truI, pd_lst1, pd_lst2, pd_lst3, pd_tup, pd_seq1, pd_seq2, pd_seq3, pd_seq4, pd_it1, pd_it2, pd_it3, pd_it4, pd_thaw0, pd_thaw1, pd_thaw2, pd_sets0, pd_sets1, pd_sets2, pd_setV1, pd_setV2, pd_put1, pd_put2, pd_puts0, pd_puts1, Co.toD, List.getElem?_cons_zero, List.getElem?_cons_succ, List.set_cons_zero, List.set_cons_succ, List.length_cons, List.length_nil, Option.map_some, Option.map_none, Option.bind_some, if_true, if_false, Bool.false_eq_true, true_and, and_true, Bool.not_true, Bool.not_false, decide_true, decide_false, reduceIte, implies_true, forall_const, false_implies, Bool.and_self, Bool.and_true, Bool.and_false, Bool.true_and, Bool.false_and, w_ret, w_C]
mutual
theorem eqv_self : ∀ {x : PyData}, plD x = true → PyData.eqv x x = true
  | .none, _ => by simp [PyData.eqv]
  | .bool _, _ => by simp [PyData.eqv]
  | .int _, _ => by simp [PyData.eqv]
  | .str _, _ => by simp [PyData.eqv]
  | .tuple xs, h => by rw [PyData.eqv]; exact eqv_selfs (by rw [plD] at h; exact h)
  | .list xs, h => by rw [PyData.eqv]; exact eqv_selfs (by rw [plD] at h; exact h)
  | .dict _, h => by rw [plD] at h; cases h
theorem eqv_selfs : ∀ {xs : List PyData}, plDs xs = true → PyData.eqvAll xs xs = true
  | [], _ => by simp [PyData.eqvAll]
  | x :: xs, h => by
    rw [plDs, Bool.and_eq_true] at h
    rw [PyData.eqvAll, eqv_self h.1, eqv_selfs h.2]
    rfl
end
theorem o_ne_self {x : PyData} {v w : PV} {Q : PV → Prop} (h1 : valP v = some x) (h2 : valP w = some x) (hp : plD x = true) (hs : SeqAt.shaped x = true) : wO (pNe v w) Q ↔ Q (.d (.bool false)) := by
  rw [o_neW h1 h2 (by rw [hs]; simp), eqv_self hp]
  rfl
theorem o_eq_self {x : PyData} {v w : PV} {Q : PV → Prop} (h1 : valP v = some x) (h2 : valP w = some x) (hp : plD x = true) (hs : SeqAt.shaped x = true) : wO (pEq v w) Q ↔ Q (.d (.bool true)) := by
  rw [o_eqW h1 h2 (by rw [hs]; simp), eqv_self hp]
end PD
set_option Elab.async false
set_option linter.all false
set_option maxRecDepth 100000
set_option maxHeartbeats 2000000
namespace PD
open PySem PySem.Spec PyProof.Rows L2 DL
section
variable {α β : Type} {e : PEnv} {s : Bg} {X : PEx → Bg → Prop} {XS : PEx → PEnv → Bg → Prop} {K : PEnv → Bg → Prop} {QS : PFl → PEnv → Bg → Prop} {Q : PV → Bg → Prop} {ga gb : Pe PV} {c : Pe Bool}
abbrev noX (_ : PEx) (_ : Bg) : Prop := False
theorem w_iEnu {g : Pe (List PV)} {Q : PIt → Bg → Prop} : wE (piEnu g e s) Q X ↔ wE (g e s) (fun v s => wO (enuP v) fun p => Q p s) X := by unfold piEnu; simp only [wE_bind, wE_of]
theorem w_Dnew : wE (pDnew e s) Q X ↔ Q (.fr (.k [])) s := Iff.rfl
def slC : Option Sl → Option Co
  | some (.own c) => some c
  | _ => none
def dkV : PV → Option PyData
  | .d x => some x
  | _ => none
theorem w_dput {j : Nat} : wS (pDput j ga gb e s) K QS XS ↔ wO (slC e[j]?) fun c => wE (gb e s) (fun v s => wE (ga e s) (fun i s => wO (dkV i) fun x => wO (frz v) fun y => wO (dputP c x y) fun c' => K (e.set j (.own c')) s) (fun x s => XS x e s)) (fun x s => XS x e s) := by
  unfold pDput
  cases ej : e[j]? with
  | none => exact Iff.rfl
  | some sl =>
    cases sl with
    | own c =>
      simp only [slC, wO_some, wS_prs]
      constructor <;> refine fun h => wE_mono h (fun v s h => wE_mono h (fun i s h => ?_) (fun _ _ h => h)) (fun _ _ h => h)
      · cases i with
        | d x =>
          simp only [dkV, wO_some]
          cases q : frz v with
          | none => rw [q] at h; exact h.elim
          | some y =>
            simp only [q] at h
            rw [wO_some]
            cases q2 : dputP c x y with
            | none => rw [q2] at h; exact h.elim
            | some c' => rw [q2] at h; exact h
        | _ => exact h.elim
      · cases i with
        | d x =>
          simp only [dkV, wO_some] at h
          cases q : frz v with
          | none => rw [q] at h; exact h.elim
          | some y =>
            rw [q, wO_some] at h
            simp only []
            cases q2 : dputP c x y with
            | none => rw [q2] at h; exact h.elim
            | some c' => rw [q2] at h; exact h
        | _ => exact h.elim
    | _ => exact Iff.rfl
theorem w_appPop {j l : Nat} {g : Pe (List PV)} : wS (pAppPop j l g e s) K QS XS ↔ j ≠ l ∧ wO (slL e[j]?) fun xs => wO (slL e[l]?) fun ys => wE (g e s) (fun vs s => wO (popP ys vs) fun r => xs.length < LIM ∧ K ((e.set l (.own (.l r.2))).set j (.own (.l (xs ++ [r.1])))) s) (fun x s => XS x e s) := by
  unfold pAppPop
  by_cases hj : j = l
  · rw [if_pos hj]; exact ⟨fun h => h.elim, fun h => absurd hj h.1⟩
  · rw [if_neg hj]
    have key : ∀ (xs ys : List PyData), wS (prs (g e s) e fun vs s => match popP ys vs with | some (x, zs) => if xs.length < LIM then .go .nx ((e.set l (.own (.l zs))).set j (.own (.l (xs ++ [x])))) s else .stuck | none => .stuck) K QS XS ↔ wE (g e s) (fun vs s => wO (popP ys vs) fun r => xs.length < LIM ∧ K ((e.set l (.own (.l r.2))).set j (.own (.l (xs ++ [r.1])))) s) (fun x s => XS x e s) := fun xs ys => by
      rw [wS_prs]
      constructor <;> refine fun h => wE_mono h (fun vs s h => ?_) (fun _ _ h => h)
      · cases q : popP ys vs with
        | none => rw [q] at h; exact h.elim
        | some r =>
          obtain ⟨x, zs⟩ := r
          simp only [q] at h
          by_cases hl : xs.length < LIM
          · rw [if_pos hl] at h; exact ⟨hl, h⟩
          · rw [if_neg hl] at h; exact h.elim
      · cases q : popP ys vs with
        | none => rw [q] at h; exact h.elim
        | some r =>
          obtain ⟨x, zs⟩ := r
          rw [q, wO_some] at h
          simp only []
          rw [if_pos h.1]; exact h.2
    split
    · rename_i xs ys h1 h2
      rw [h1, h2]
      simp only [slL, wO_some]
      exact ⟨fun h => ⟨hj, (key xs ys).mp h⟩, fun h => (key xs ys).mpr h.2⟩
    · rename_i hn
      refine ⟨fun h => h.elim, fun h => ?_⟩
      obtain ⟨_, h⟩ := h
      cases q1 : slL e[j]? with
      | none => rw [q1] at h; exact h.elim
      | some xs =>
        rw [q1, wO_some] at h
        cases q2 : slL e[l]? with
        | none => rw [q2] at h; exact h.elim
        | some ys =>
          have inv : ∀ {o : Option Sl} {zs : List PyData}, slL o = some zs → o = some (.own (.l zs)) := fun {o zs} ho => by
            unfold slL at ho
            split at ho
            · cases ho; rfl
            · cases ho
          exact (hn _ _ (inv q1) (inv q2)).elim
theorem w_Dc {g : Pe PIt} {t : Tg} {own : List Nat} : wE (pDc g t c ga gb own e s) Q X ↔ wE (g e s) (fun p s => wE (pdcL t c ga gb (forgetP own e) p.xs [] s) (fun xs s => Q (.fr (.k xs)) s) (fun _ _ => False)) X := by
  unfold pDc
  rw [wE_bind]
  constructor <;> refine fun h => wE_mono h (fun p s h => ?_) (fun _ _ h => h)
  · cases q : pdcL t c ga gb (forgetP own e) p.xs [] s with
    | ok xs s => rw [q] at h; exact h
    | exc _ _ => rw [q] at h; exact h.elim
    | stuck => rw [q] at h; exact h.elim
  · cases q : pdcL t c ga gb (forgetP own e) p.xs [] s with
    | ok xs s => rw [q] at h; exact h
    | exc _ _ => rw [q] at h; exact h.elim
    | stuck => rw [q] at h; exact h.elim
section
variable {Q : PV → Prop} {x y : Str} {xs : List PyData} {a b : Int}
theorem o_eqS : wO (pEq (.d (.str x)) (.d (.str y))) Q ↔ Q (.d (.bool (decide (x = y)))) := by
  rw [o_eqW (x := .str x) (y := .str y) rfl rfl rfl, PyData.eqv]
  rfl
theorem o_neS : wO (pNe (.d (.str x)) (.d (.str y))) Q ↔ Q (.d (.bool (!decide (x = y)))) := by
  rw [o_neW (x := .str x) (y := .str y) rfl rfl rfl, PyData.eqv]
  rfl
theorem o_isN1 : wO (pIsN (.d .none) (.d .none)) Q ↔ Q (.d (.bool true)) := Iff.rfl
theorem o_isN2 : wO (pIsN (.d (.str x)) (.d .none)) Q ↔ Q (.d (.bool false)) := Iff.rfl
theorem o_isN3 : wO (pIsN (.d (.int a)) (.d .none)) Q ↔ Q (.d (.bool false)) := Iff.rfl
theorem o_isN4 : wO (pIsN (.d (.tuple xs)) (.d .none)) Q ↔ Q (.d (.bool false)) := Iff.rfl
theorem o_isN5 : wO (pIsN (.d (.list xs)) (.d .none)) Q ↔ Q (.d (.bool false)) := Iff.rfl
theorem o_nN1 : wO (pNn (.d .none) (.d .none)) Q ↔ Q (.d (.bool false)) := Iff.rfl
theorem o_nN2 : wO (pNn (.d (.str x)) (.d .none)) Q ↔ Q (.d (.bool true)) := Iff.rfl
theorem o_nN3 : wO (pNn (.d (.int a)) (.d .none)) Q ↔ Q (.d (.bool true)) := Iff.rfl
theorem o_nN4 : wO (pNn (.d (.tuple xs)) (.d .none)) Q ↔ Q (.d (.bool true)) := Iff.rfl
theorem o_nN5 : wO (pNn (.d (.list xs)) (.d .none)) Q ↔ Q (.d (.bool true)) := Iff.rfl
theorem o_ixT0 {x : PyData} {r : List PyData} : wO (pIx (.d (.tuple (x :: r))) (.d (.int 0))) Q ↔ Q (.d x) := by rw [o_ix (xs := x :: r) rfl, at_0]; exact Iff.rfl
theorem at_1 {α : Type} {x y : α} {r : List α} : atI (x :: y :: r) 1 = some y := by rw [show (1 : Int) = ((1 : Nat) : Int) from rfl, at_nat (by simp)]; rfl
theorem at_2 {α : Type} {x y z : α} {r : List α} : atI (x :: y :: z :: r) 2 = some z := by rw [show (2 : Int) = ((2 : Nat) : Int) from rfl, at_nat (by simp)]; rfl
theorem at_3 {α : Type} {x y z w : α} {r : List α} : atI (x :: y :: z :: w :: r) 3 = some w := by rw [show (3 : Int) = ((3 : Nat) : Int) from rfl, at_nat (by simp)]; rfl
theorem o_ixT1 {x y : PyData} {r : List PyData} : wO (pIx (.d (.tuple (x :: y :: r))) (.d (.int 1))) Q ↔ Q (.d y) := by rw [o_ix (xs := x :: y :: r) rfl, at_1]; exact Iff.rfl
theorem o_ixT2 {x y z : PyData} {r : List PyData} : wO (pIx (.d (.tuple (x :: y :: z :: r))) (.d (.int 2))) Q ↔ Q (.d z) := by rw [o_ix (xs := x :: y :: z :: r) rfl, at_2]; exact Iff.rfl
theorem o_ixT3 {x y z w : PyData} {r : List PyData} : wO (pIx (.d (.tuple (x :: y :: z :: w :: r))) (.d (.int 3))) Q ↔ Q (.d w) := by rw [o_ix (xs := x :: y :: z :: w :: r) rfl, at_3]; exact Iff.rfl
theorem o_ixF0 {x : PyData} {r : List PyData} : wO (pIx (.d (.list (x :: r))) (.d (.int 0))) Q ↔ Q (.d x) := by rw [o_ix (xs := x :: r) rfl, at_0]; exact Iff.rfl
theorem o_ixF1 {x : PyData} {r : List PyData} : wO (pIx (.fr (.l (x :: r))) (.d (.int 0))) Q ↔ Q (.d x) := by rw [o_ix (xs := x :: r) rfl, at_0]; exact Iff.rfl
theorem at_natq {α : Type} {l : List α} {k : Nat} {x : α} (h : l[k]? = some x) : atI l (k : Int) = some x := by
  rw [at_nat (List.getElem?_eq_some_iff.mp h).1, h]
/-- a list compared with [] -/
theorem eqvAll_nil {xs : List PyData} : PyData.eqvAll xs [] = xs.isEmpty := by cases xs <;> simp [PyData.eqvAll]
theorem o_neNil {v w : PV} {xs : List PyData} (h : valP v = some (.list xs)) (hw : valP w = some (.list [])) (hs : SeqAt.shaped (.list xs) = true) : wO (pNe v w) Q ↔ Q (.d (.bool (!xs.isEmpty))) := by
  rw [o_neW h hw (by rw [hs]; rfl), PyData.eqv, eqvAll_nil]
theorem o_eqNil {v w : PV} {xs : List PyData} (h : valP v = some (.list xs)) (hw : valP w = some (.list [])) (hs : SeqAt.shaped (.list xs) = true) : wO (pEq v w) Q ↔ Q (.d (.bool xs.isEmpty)) := by
  rw [o_eqW h hw (by rw [hs]; rfl), PyData.eqv, eqvAll_nil]
theorem o_enu1 {xs : List PyData} {Q : PIt → Prop} : wO (enuP [.d (.tuple xs)]) Q ↔ Q ⟨enumD 0 xs, true⟩ := Iff.rfl
theorem o_enu2 {xs : List PyData} {Q : PIt → Prop} : wO (enuP [.d (.list xs)]) Q ↔ Q ⟨enumD 0 xs, true⟩ := Iff.rfl
theorem o_enu3 {xs : List PyData} {Q : PIt → Prop} : wO (enuP [.fr (.l xs)]) Q ↔ Q ⟨enumD 0 xs, true⟩ := Iff.rfl
end
theorem intsP'_eq (n : Nat) : intsP' 0 n = (List.range n).map fun (i : Nat) => PyData.int (i : Int) := by
  unfold intsP'
  exact List.map_congr_left fun i _ => by rw [Int.zero_add]
def fzS (j : Nat) (e : PEnv) : Option Sl → PEnv
  | some (.own c) => e.set j (.d c.toD)
  | _ => e
theorem w_fz' {j : Nat} {g : Ps} : wS (pFz j g e s) K QS XS ↔ wS (g (fzS j e e[j]?) s) K QS XS := by
  rw [w_fz]
  cases e[j]? with
  | none => exact Iff.rfl
  | some sl => cases sl <;> exact Iff.rfl
theorem fzS1 {j : Nat} {c : Co} : fzS j e (some (.own c)) = e.set j (.d c.toD) := rfl
theorem fzS2 {j : Nat} {x : PyData} : fzS j e (some (.d x)) = e := rfl
theorem fzS3 {j : Nat} : fzS j e (some .no) = e := rfl
theorem fzS4 {j : Nat} : fzS j e (some .bag) = e := rfl
theorem cut_to {α : Type} (xs : List α) (k : Nat) : cutL xs none (some (k : Int)) = xs.take k := by
  unfold cutL HT.sIx
  simp only [List.drop_zero, Nat.sub_zero]
  have h : ¬ ((k : Int) < 0) := by omega
  simp [h]
def sh (k : Nat) (d : PyData) : Prop := d.canLay0 = true ∧ d.depth ≤ k
theorem sh_all {k : Nat} : ∀ {ds : List PyData}, (∀ d ∈ ds, sh k d) → PyData.canLayAll0 ds = true ∧ PyData.depthAll ds ≤ k
  | [], _ => ⟨by simp [PyData.canLayAll0], by simp [PyData.depthAll]⟩
  | d :: ds, h => by
    obtain ⟨h1, h2⟩ := h d List.mem_cons_self
    obtain ⟨h3, h4⟩ := sh_all fun e he => h e (List.mem_cons_of_mem _ he)
    exact ⟨by rw [PyData.canLayAll0, h1, h3]; rfl, by rw [PyData.depthAll]; exact Nat.max_le.mpr ⟨h2, h4⟩⟩
theorem sh_tup {k : Nat} {ds : List PyData} (h : ∀ d ∈ ds, sh k d) : sh (k + 1) (.tuple ds) := by
  obtain ⟨h1, h2⟩ := sh_all h
  exact ⟨by rw [PyData.canLay0]; exact h1, by rw [PyData.depth]; omega⟩
theorem sh_lst {k : Nat} {ds : List PyData} (h : ∀ d ∈ ds, sh k d) : sh (k + 1) (.list ds) := by
  obtain ⟨h1, h2⟩ := sh_all h
  exact ⟨by rw [PyData.canLay0]; exact h1, by rw [PyData.depth]; omega⟩
theorem sh_int {i : Int} : sh 0 (.int i) := ⟨by rw [PyData.canLay0], by rw [PyData.depth]; exact Nat.le_refl _⟩
theorem shaped_of {k : Nat} {d : PyData} (h : sh k d) (hk : k ≤ 64) : SeqAt.shaped d = true := by
  unfold SeqAt.shaped
  rw [h.1]
  exact decide_eq_true (Nat.le_trans h.2 hk)
theorem w_lcA {t : Tg} {e0 : PEnv} {R : List PyData → Bg → Prop} {X : PEx → Bg → Prop} (enc : α → PyData) (p : α → Bool) (v : α → PyData) : ∀ (l : List α) (acc : List PyData) (s : Bg), acc.length + l.length ≤ LIM →
    (∀ a ∈ l, wO (putP t (enc a) e0) fun e1 => wE (c e1 s) (fun b s1 => b = p a ∧ s1 = s ∧ (p a = true → wE (ga e1 s) (fun w s2 => frz w = some (v a) ∧ s2 = s) noX)) noX) →
    R (acc ++ (l.filter p).map v) s → wE (plcL t c ga e0 (l.map enc) acc s) R X
  | [], acc, s, _, _, h => by
    simp only [List.filter_nil, List.map_nil, List.append_nil] at h
    exact h
  | x :: xs, acc, s, hl, hx, h => by
    rw [List.map_cons]
    unfold plcL
    have h1 := hx x List.mem_cons_self
    simp only [List.length_cons] at hl
    cases q : putP t (enc x) e0 with
    | none => rw [q] at h1; exact h1.elim
    | some e1 =>
      rw [q] at h1
      simp only [wO_some, wE_bind] at h1 ⊢
      cases q2 : c e1 s with
      | stuck => rw [q2] at h1; exact h1.elim
      | exc _ _ => rw [q2] at h1; exact h1.elim
      | ok b s1 =>
        rw [q2] at h1
        obtain ⟨rfl, rfl, h2⟩ := h1
        rw [wE_ok]
        cases ep : p x with
        | false =>
          rw [if_neg (by simp)]
          refine w_lcA enc p v xs acc s1 (by omega) (fun y hy => hx y (List.mem_cons_of_mem _ hy)) ?_
          rw [List.filter_cons_of_neg (by simp [ep])] at h
          exact h
        | true =>
          rw [if_pos rfl, wE_bind]
          have h3 := h2 ep
          cases q3 : ga e1 s1 with
          | stuck => rw [q3] at h3; exact h3.elim
          | exc _ _ => rw [q3] at h3; exact h3.elim
          | ok w s2 =>
            rw [q3] at h3
            obtain ⟨e4, rfl⟩ := h3
            rw [wE_ok, e4]
            simp only []
            rw [if_pos (by omega)]
            refine w_lcA enc p v xs (acc ++ [v x]) s2 (by simp; omega) (fun y hy => hx y (List.mem_cons_of_mem _ hy)) ?_
            rw [List.filter_cons_of_pos (by simp [ep])] at h
            simpa using h
/-- a comprehension whose parts answer and leave the bag: some of the items -/
theorem w_lcM {t : Tg} {e0 : PEnv} {R : List PyData → Bg → Prop} {X : PEx → Bg → Prop} (enc : α → PyData) (l : List α) (p : α → Bool) (v : α → PyData) (hl : l.length ≤ LIM)
    (hx : ∀ a ∈ l, wO (putP t (enc a) e0) fun e1 => wE (c e1 s) (fun b s1 => b = p a ∧ s1 = s ∧ (p a = true → wE (ga e1 s) (fun w s2 => frz w = some (v a) ∧ s2 = s) noX)) noX)
    (h : R ((l.filter p).map v) s) : wE (plcL t c ga e0 (l.map enc) [] s) R X := w_lcA enc p v l [] s (by simpa using hl) hx (by simpa using h)
/-- all of them -/
theorem w_lcT {t : Tg} {e0 : PEnv} {R : List PyData → Bg → Prop} {X : PEx → Bg → Prop} (enc : α → PyData) (l : List α) (v : α → PyData) (hl : l.length ≤ LIM)
    (hx : ∀ a ∈ l, wO (putP t (enc a) e0) fun e1 => wE (ga e1 s) (fun w s2 => frz w = some (v a) ∧ s2 = s) noX)
    (h : R (l.map v) s) : wE (plcL t bTrueP ga e0 (l.map enc) [] s) R X := by
  refine w_lcM enc l (fun _ => true) v hl (fun a ha => ?_) ?_
  · have h1 := hx a ha
    cases q : putP t (enc a) e0 with
    | none => rw [q] at h1; exact h1.elim
    | some e1 =>
      rw [q] at h1
      exact ⟨rfl, rfl, fun _ => h1⟩
  · have e : l.filter (fun _ => true) = l := List.filter_eq_self.mpr fun _ _ => rfl
    rw [e]; exact h
/-- r is what a choice takes out of l, each by P -/
inductive Sel (P : α → β → Prop) : List α → List β → Prop
  | nil : Sel P [] []
  | skip {a : α} {l : List α} {r : List β} : Sel P l r → Sel P (a :: l) r
  | take {a : α} {b : β} {l : List α} {r : List β} : P a b → Sel P l r → Sel P (a :: l) (b :: r)
theorem Sel.length {P : α → β → Prop} {l : List α} {r : List β} (h : Sel P l r) : r.length ≤ l.length := by
  induction h with
  | nil => exact Nat.le_refl _
  | skip _ ih => simp; omega
  | take _ _ ih => simp; omega
theorem Sel.sub {P : α → β → Prop} {f : β → α} (hf : ∀ a b, P a b → f b = a) {l : List α} {r : List β} (h : Sel P l r) : (r.map f).Sublist l := by
  induction h with
  | nil => exact List.Sublist.slnil
  | skip _ ih => exact ih.cons _
  | take p _ ih => rw [List.map_cons, hf _ _ p]; exact ih.cons_cons _
theorem Sel.mem {P : α → β → Prop} {l : List α} {r : List β} (h : Sel P l r) : ∀ b ∈ r, ∃ a ∈ l, P a b := by
  induction h with
  | nil => simp
  | skip _ ih => exact fun b hb => let ⟨a, ha, p⟩ := ih b hb; ⟨a, List.mem_cons_of_mem _ ha, p⟩
  | take p _ ih => exact fun b hb => (List.mem_cons.mp hb).elim (fun e => by subst e; exact ⟨_, List.mem_cons_self, p⟩) (fun h => let ⟨a, ha, p⟩ := ih b h; ⟨a, List.mem_cons_of_mem _ ha, p⟩)
/-- r goes with l, each by P -/
inductive All2 (P : α → β → Prop) : List α → List β → Prop
  | nil : All2 P [] []
  | cons {a : α} {b : β} {l : List α} {r : List β} : P a b → All2 P l r → All2 P (a :: l) (b :: r)
theorem All2.length {P : α → β → Prop} {l : List α} {r : List β} (h : All2 P l r) : r.length = l.length := by
  induction h with
  | nil => rfl
  | cons _ _ ih => simp [ih]
theorem All2.map {P : α → β → Prop} {f : β → α} (hf : ∀ a b, P a b → f b = a) {l : List α} {r : List β} (h : All2 P l r) : r.map f = l := by
  induction h with
  | nil => rfl
  | cons p _ ih => rw [List.map_cons, hf _ _ p, ih]
theorem All2.mem {P : α → β → Prop} {l : List α} {r : List β} (h : All2 P l r) : ∀ b ∈ r, ∃ a ∈ l, P a b := by
  induction h with
  | nil => simp
  | cons p _ ih => exact fun b hb => (List.mem_cons.mp hb).elim (fun e => by subst e; exact ⟨_, List.mem_cons_self, p⟩) (fun h => let ⟨a, ha, p⟩ := ih b h; ⟨a, List.mem_cons_of_mem _ ha, p⟩)
theorem w_lcEA {t : Tg} {e0 : PEnv} {R : List PyData → Bg → Prop} {X : PEx → Bg → Prop} (enc : α → PyData) (encB : β → PyData) (P : α → β → Prop) (G : Bg → Prop) : ∀ (l : List α) (acc : List β) (s : Bg), acc.length + l.length ≤ LIM → G s →
    (∀ a ∈ l, ∀ s1, G s1 → wO (putP t (enc a) e0) fun e1 => wE (ga e1 s1) (fun w s3 => ∃ y, P a y ∧ frz w = some (encB y) ∧ G s3) X) →
    (∀ r s', All2 P l r → G s' → R ((acc ++ r).map encB) s') → wE (plcL t bTrueP ga e0 (l.map enc) (acc.map encB) s) R X
  | [], acc, s, _, hg, _, h => by
    have := h [] s .nil hg
    rw [List.append_nil] at this
    exact this
  | x :: xs, acc, s, hl, hg, hx, h => by
    rw [List.map_cons]
    unfold plcL
    have h1 := hx x List.mem_cons_self s hg
    simp only [List.length_cons] at hl
    cases q : putP t (enc x) e0 with
    | none => rw [q] at h1; exact h1.elim
    | some e1 =>
      rw [q] at h1
      simp only [wO_some, wE_bind, w_bTrue, if_true] at h1 ⊢
      refine wE_mono h1 (fun w s3 ⟨y, hy, hw, hg3⟩ => ?_) (fun _ _ h => h)
      rw [hw]
      simp only []
      rw [if_pos (by rw [List.length_map]; omega)]
      have := w_lcEA enc encB P G (R := R) (X := X) xs (acc ++ [y]) s3 (by simp; omega) hg3 (fun a ha => hx a (List.mem_cons_of_mem _ ha)) (fun r s' hr hg' => by
        have := h (y :: r) s' (.cons hy hr) hg'
        simpa using this)
      simpa using this
theorem w_lcE {t : Tg} {e0 : PEnv} {R : List PyData → Bg → Prop} {X : PEx → Bg → Prop} (enc : α → PyData) (encB : β → PyData) (P : α → β → Prop) (G : Bg → Prop) (l : List α) (hl : l.length ≤ LIM) (hg : G s)
    (hx : ∀ a ∈ l, ∀ s1, G s1 → wO (putP t (enc a) e0) fun e1 => wE (ga e1 s1) (fun w s3 => ∃ y, P a y ∧ frz w = some (encB y) ∧ G s3) X)
    (h : ∀ r s', All2 P l r → G s' → R (r.map encB) s') : wE (plcL t bTrueP ga e0 (l.map enc) [] s) R X := w_lcEA enc encB P G l [] s (by simpa using hl) hg hx (by simpa using h)
/-- a for over what is typed: what holds behind the items that are done (done ++ left is all) -/
theorem w_forT {t : Tg} {f : Ps} (enc : α → PyData) (l : List α) (I : List α → PEnv → Bg → Prop) (h0 : I [] e s)
    (hs : ∀ (d : List α) (a : α) (r : List α) e s, l = d ++ a :: r → I d e s → wO (putP t (enc a) e) fun e1 => wS (f e1 s) (I (d ++ [a])) (brkP K (I (d ++ [a])) QS) XS) (hd : ∀ e s, I l e s → K e s) :
    wS (pForL t f (l.map enc) e s) K QS XS := by
  have go : ∀ (r d : List α) e s, l = d ++ r → I d e s → wS (pForL t f (r.map enc) e s) K QS XS := by
    intro r
    induction r with
    | nil =>
      intro d e s hl h
      rw [List.append_nil] at hl
      subst hl
      exact hd e s h
    | cons a r ih =>
      intro d e s hl h
      rw [List.map_cons, w_forC]
      have h1 := hs d a r e s hl h
      have ih2 := fun e s h => ih (d ++ [a]) e s (by rw [hl]; simp) h
      cases q : putP t (enc a) e with
      | none => rw [q] at h1; exact h1.elim
      | some e1 =>
        rw [q] at h1
        refine wS_mono h1 ih2 (fun fl e s h => ?_) (fun _ _ _ h => h)
        cases fl with
        | ct => exact ih2 e s h
        | _ => exact h
  exact go l [] e s rfl h0
end
theorem m_g0 {α : Type} {a : α} {l : List α} : (a :: l)[0]? = some a := rfl
theorem m_gs {α : Type} {a : α} {i : Nat} {l : List α} : (a :: l)[i + 1]? = l[i]? := rfl
theorem m_s0 {α : Type} {a b : α} {l : List α} : (a :: l).set 0 b = b :: l := rfl
theorem m_ss {α : Type} {a b : α} {i : Nat} {l : List α} : (a :: l).set (i + 1) b = a :: l.set i b := rfl
theorem m_lc {α : Type} {a : α} {l : List α} : (a :: l).length = l.length + 1 := rfl
theorem m_ln {α : Type} : ([] : List α).length = 0 := rfl
theorem m_om {α β : Type} {f : α → β} {a : α} : (some a).map f = some (f a) := rfl
theorem m_on {α β : Type} {f : α → β} : (none : Option α).map f = none := rfl
theorem m_ob {α β : Type} {f : α → Option β} {a : α} : (some a).bind f = f a := rfl
theorem m_it {α : Type} {a b : α} : (if True then a else b) = a := if_pos trivial
theorem m_if {α : Type} {a b : α} : (if False then a else b) = b := if_neg id
theorem m_pt {p : Prop} : (p → True) = True := by simp
theorem m_pc {p : Prop} : (True → p) = p := by simp
theorem wW : type_of% (And.intro @w_seq <| And.intro @w_ifS <| And.intro @w_setF <| And.intro @w_set <| And.intro @w_b2 <| And.intro @w_bV <| And.intro @w_bAnd <| And.intro @w_bOr <| And.intro @w_bNot <| And.intro @w_bTrue <| And.intro @w_1 <| And.intro @w_2 <| And.intro @w_N <| And.intro @w_C <| And.intro @w_V <| And.intro @w_aN <| And.intro @w_aC <| And.intro @w_aS <| And.intro @w_call <| And.intro @w_If <| And.intro @w_And <| And.intro @w_Or <| And.intro @w_Not <| And.intro @w_Ch <| And.intro @w_bCh <| And.intro @w_oN <| And.intro @w_oS <| And.intro @w_Sl <| And.intro @w_Rv <| And.intro @w_Join <| And.intro @w_Lc <| And.intro @w_iV <| And.intro @w_iR1 <| And.intro @w_iR2 <| And.intro @w_nop <| And.intro @w_drop <| And.intro @w_ret <| And.intro @w_retN <| And.intro @w_bk <| And.intro @w_ct <| And.intro @w_asg <| And.intro @w_aug <| And.intro @w_par <| And.intro @w_app <| And.intro @w_ext <| And.intro @w_subS <| And.intro @w_raise <| And.intro @w_for <| And.intro @w_iEnu <| And.intro @w_Dnew <| And.intro @w_dput <| And.intro @w_appPop <| And.intro @w_Dc <| And.intro @w_lam <| And.intro @w_fz' <| And.intro @fzS1 <| And.intro @fzS2 <| And.intro @fzS3 <| @fzS4) := And.intro @w_seq <| And.intro @w_ifS <| And.intro @w_setF <| And.intro @w_set <| And.intro @w_b2 <| And.intro @w_bV <| And.intro @w_bAnd <| And.intro @w_bOr <| And.intro @w_bNot <| And.intro @w_bTrue <| And.intro @w_1 <| And.intro @w_2 <| And.intro @w_N <| And.intro @w_C <| And.intro @w_V <| And.intro @w_aN <| And.intro @w_aC <| And.intro @w_aS <| And.intro @w_call <| And.intro @w_If <| And.intro @w_And <| And.intro @w_Or <| And.intro @w_Not <| And.intro @w_Ch <| And.intro @w_bCh <| And.intro @w_oN <| And.intro @w_oS <| And.intro @w_Sl <| And.intro @w_Rv <| And.intro @w_Join <| And.intro @w_Lc <| And.intro @w_iV <| And.intro @w_iR1 <| And.intro @w_iR2 <| And.intro @w_nop <| And.intro @w_drop <| And.intro @w_ret <| And.intro @w_retN <| And.intro @w_bk <| And.intro @w_ct <| And.intro @w_asg <| And.intro @w_aug <| And.intro @w_par <| And.intro @w_app <| And.intro @w_ext <| And.intro @w_subS <| And.intro @w_raise <| And.intro @w_for <| And.intro @w_iEnu <| And.intro @w_Dnew <| And.intro @w_dput <| And.intro @w_appPop <| And.intro @w_Dc <| And.intro @w_lam <| And.intro @w_fz' <| And.intro @fzS1 <| And.intro @fzS2 <| And.intro @fzS3 <| @fzS4
theorem lL : type_of% (And.intro @wO_some <| And.intro @wO_none <| And.intro @pd_slV1 <| And.intro @pd_slV2 <| And.intro @pd_slV3 <| And.intro @pd_slD <| And.intro @pd_slL <| And.intro @pd_frz1 <| And.intro @pd_frz2 <| And.intro @pd_frzA0 <| And.intro @pd_frzA1 <| And.intro @pd_frzA2 <| And.intro @pd_frzA3 <| And.intro @pd_frzs0 <| And.intro @pd_frzs1 <| And.intro @pd_frzs2 <| And.intro @pd_retV1 <| And.intro @pd_retV2 <| And.intro @pd_retV3 <| And.intro @pd_oneV <| And.intro @pd_intV <| And.intro @pd_strV <| And.intro @pd_boolP <| And.intro @pd_truN <| And.intro @pd_truB <| And.intro @pd_truI <| And.intro @pd_lst1 <| And.intro @pd_lst2 <| And.intro @pd_lst3 <| And.intro @pd_tup <| And.intro @pd_seq1 <| And.intro @pd_seq2 <| And.intro @pd_seq3 <| And.intro @pd_seq4 <| And.intro @pd_it1 <| And.intro @pd_it2 <| And.intro @pd_it3 <| And.intro @pd_it4 <| And.intro @pd_thaw0 <| And.intro @pd_thaw1 <| And.intro @pd_thaw2 <| And.intro @pd_sets0 <| And.intro @pd_sets1 <| And.intro @pd_sets2 <| And.intro @pd_setV1 <| And.intro @pd_setV2 <| And.intro @pd_put1 <| And.intro @pd_put2 <| And.intro @pd_puts0 <| And.intro @pd_puts1 <| And.intro @m_g0 <| And.intro @m_gs <| And.intro @m_s0 <| And.intro @m_ss <| And.intro @m_lc <| And.intro @m_ln <| And.intro @m_om <| And.intro @m_on <| And.intro @m_ob <| And.intro @m_it <| And.intro @m_if <| And.intro @Bool.false_eq_true <| And.intro @true_and <| And.intro @and_true <| And.intro @Bool.not_true <| And.intro @Bool.not_false <| And.intro @decide_true <| And.intro @decide_false <| And.intro @m_pt <| And.intro @m_pc <| And.intro @false_implies <| And.intro @Bool.and_self <| And.intro @Bool.and_true <| And.intro @Bool.and_false <| And.intro @Bool.true_and <| @Bool.false_and) := And.intro @wO_some <| And.intro @wO_none <| And.intro @pd_slV1 <| And.intro @pd_slV2 <| And.intro @pd_slV3 <| And.intro @pd_slD <| And.intro @pd_slL <| And.intro @pd_frz1 <| And.intro @pd_frz2 <| And.intro @pd_frzA0 <| And.intro @pd_frzA1 <| And.intro @pd_frzA2 <| And.intro @pd_frzA3 <| And.intro @pd_frzs0 <| And.intro @pd_frzs1 <| And.intro @pd_frzs2 <| And.intro @pd_retV1 <| And.intro @pd_retV2 <| And.intro @pd_retV3 <| And.intro @pd_oneV <| And.intro @pd_intV <| And.intro @pd_strV <| And.intro @pd_boolP <| And.intro @pd_truN <| And.intro @pd_truB <| And.intro @pd_truI <| And.intro @pd_lst1 <| And.intro @pd_lst2 <| And.intro @pd_lst3 <| And.intro @pd_tup <| And.intro @pd_seq1 <| And.intro @pd_seq2 <| And.intro @pd_seq3 <| And.intro @pd_seq4 <| And.intro @pd_it1 <| And.intro @pd_it2 <| And.intro @pd_it3 <| And.intro @pd_it4 <| And.intro @pd_thaw0 <| And.intro @pd_thaw1 <| And.intro @pd_thaw2 <| And.intro @pd_sets0 <| And.intro @pd_sets1 <| And.intro @pd_sets2 <| And.intro @pd_setV1 <| And.intro @pd_setV2 <| And.intro @pd_put1 <| And.intro @pd_put2 <| And.intro @pd_puts0 <| And.intro @pd_puts1 <| And.intro @m_g0 <| And.intro @m_gs <| And.intro @m_s0 <| And.intro @m_ss <| And.intro @m_lc <| And.intro @m_ln <| And.intro @m_om <| And.intro @m_on <| And.intro @m_ob <| And.intro @m_it <| And.intro @m_if <| And.intro @Bool.false_eq_true <| And.intro @true_and <| And.intro @and_true <| And.intro @Bool.not_true <| And.intro @Bool.not_false <| And.intro @decide_true <| And.intro @decide_false <| And.intro @m_pt <| And.intro @m_pc <| And.intro @false_implies <| And.intro @Bool.and_self <| And.intro @Bool.and_true <| And.intro @Bool.and_false <| And.intro @Bool.true_and <| @Bool.false_and
theorem pP : type_of% (And.intro @o_eqS <| And.intro @o_neS <| And.intro @o_isN1 <| And.intro @o_isN2 <| And.intro @o_isN3 <| And.intro @o_isN4 <| And.intro @o_isN5 <| And.intro @o_nN1 <| And.intro @o_nN2 <| And.intro @o_nN3 <| And.intro @o_nN4 <| And.intro @o_nN5 <| And.intro @o_ixT0 <| And.intro @o_ixT1 <| And.intro @o_ixT2 <| And.intro @o_ixT3 <| And.intro @o_ixF0 <| And.intro @o_ixF1 <| And.intro @o_tuple <| And.intro @o_list <| And.intro @o_enu1 <| And.intro @o_enu2 <| @o_enu3) := And.intro @o_eqS <| And.intro @o_neS <| And.intro @o_isN1 <| And.intro @o_isN2 <| And.intro @o_isN3 <| And.intro @o_isN4 <| And.intro @o_isN5 <| And.intro @o_nN1 <| And.intro @o_nN2 <| And.intro @o_nN3 <| And.intro @o_nN4 <| And.intro @o_nN5 <| And.intro @o_ixT0 <| And.intro @o_ixT1 <| And.intro @o_ixT2 <| And.intro @o_ixT3 <| And.intro @o_ixF0 <| And.intro @o_ixF1 <| And.intro @o_tuple <| And.intro @o_list <| And.intro @o_enu1 <| And.intro @o_enu2 <| @o_enu3
end PD
set_option Elab.async false
set_option linter.all false
set_option maxRecDepth 100000
set_option maxHeartbeats 2000000
namespace PD
open PySem PySem.Spec PyProof.Rows L2 DL
section
variable {α β : Type} {e : PEnv} {s : Bg} {X : PEx → Bg → Prop} {XS : PEx → PEnv → Bg → Prop} {K : PEnv → Bg → Prop} {QS : PFl → PEnv → Bg → Prop} {Q : PV → Bg → Prop} {ga gb gc : Pe PV} {f g : Ps} {cs : List Str} {fl c x : Str} {ms : List (Str × PFn)} {n : Nat} {gl gl2 : Pe (List PV)} {P : PFn}
def dOf : PV → Option PyData
  | .d x => some x
  | _ => none
def tOf : PyData → Option (List PyData)
  | .tuple xs => some xs
  | _ => none
def slOb : Option Sl → Option Nat
  | some (.ob k) => some k
  | _ => none
def isNo : PV → Prop
  | .d .none => True
  | _ => False
theorem iff_mono {r : PR α} {Q Q' : α → Bg → Prop} (h : ∀ a s, Q a s ↔ Q' a s) : wE r Q X ↔ wE r Q' X := ⟨fun w => wE_mono w (fun a s => (h a s).mp) fun _ _ h => h, fun w => wE_mono w (fun a s => (h a s).mpr) fun _ _ h => h⟩
theorem w_fld : wE (pFld cs fl ga e s) Q X ↔ wE (ga e s) (fun v s => wO (fldV cs fl s.obs v) fun v => Q v s) X := by unfold pFld; simp only [wE_bind, wE_of]
theorem w_fset : wS (pFSet cs fl ga gb e s) K QS XS ↔ wE (gb e s) (fun v s => wO (frz v) fun y => wE (ga e s) (fun o s => wO (obk o) fun k => wO (obW cs fl (.d y) s.obs k) fun os => K e { s with obs := os }) fun x s => XS x e s) (fun x s => XS x e s) := by
  unfold pFSet
  rw [wS_prs]
  refine iff_mono fun v s => ?_
  cases frz v with
  | none => exact Iff.rfl
  | some y =>
    simp only [wO_some]
    rw [wS_prs]
    refine iff_mono fun o s => ?_
    cases obk o with
    | none => exact Iff.rfl
    | some k =>
      simp only [wO_some]
      cases obW cs fl (.d y) s.obs k <;> exact Iff.rfl
theorem w_faug {p : PV → PV → Option PV} : wS (pFAug cs fl p ga gb e s) K QS XS ↔ wE (ga e s) (fun o s => wO (obk o) fun k => wO (fldD cs fl s.obs k) fun cx => wE (gb e s) (fun y s => wO (p (.d cx.2) y) fun v => wO (dOf v) fun z => wO (obW [cx.1] fl (.d z) s.obs k) fun os => K e { s with obs := os }) fun x s => XS x e s) (fun x s => XS x e s) := by
  unfold pFAug
  rw [wS_prs]
  refine iff_mono fun o s => ?_
  cases obk o with
  | none => exact Iff.rfl
  | some k =>
    simp only [wO_some]
    cases fldD cs fl s.obs k with
    | none => exact Iff.rfl
    | some cx =>
      simp only [wO_some]
      rw [wS_prs]
      refine iff_mono fun y s => ?_
      cases p (.d cx.2) y with
      | none => exact Iff.rfl
      | some v =>
        cases v with
        | d z =>
          simp only [wO_some, dOf]
          cases obW [cx.1] fl (.d z) s.obs k <;> exact Iff.rfl
        | _ => exact Iff.rfl
theorem w_fpar {i : Nat} {fs : List Str} : wS (pFPar cs i fs ga e s) K QS XS ↔ wE (ga e s) (fun v s => wO (frz v) fun t => wO (tOf t) fun xs => wO (slOb e[i]?) fun k => wO (obWs cs fs xs s.obs k) fun os => K e { s with obs := os }) (fun x s => XS x e s) := by
  unfold pFPar
  rw [wS_prs]
  refine iff_mono fun v s => ?_
  cases frz v with
  | none => exact Iff.rfl
  | some t =>
    cases t with
    | tuple xs =>
      simp only [wO_some, tOf]
      cases e[i]? with
      | none => exact Iff.rfl
      | some sl =>
        cases sl with
        | ob k =>
          simp only [slOb, wO_some]
          cases obWs cs fs xs s.obs k <;> exact Iff.rfl
        | _ => exact Iff.rfl
    | _ => exact Iff.rfl
theorem w_callMe {o : PV} : wE (callMe ms x n o gl e s) Q X ↔ wO (clsV x s.obs o) fun c => wO (ms.lookup c) fun P => wE (gl e s) (fun vs s => wO (frzA vs) fun us => us.length + 1 = n ∧ wE (P (o :: us) s) Q X) X := by
  unfold callMe
  cases clsV x s.obs o with
  | none => exact Iff.rfl
  | some c =>
    simp only [wO_some]
    cases ms.lookup c with
    | none => exact Iff.rfl
    | some P =>
      simp only [wO_some, wE_bind]
      refine iff_mono fun vs s => ?_
      cases frzA vs with
      | none => exact Iff.rfl
      | some us =>
        simp only [wO_some]
        by_cases h : us.length + 1 = n
        · rw [if_pos h]; exact ⟨fun q => ⟨h, q⟩, fun q => q.2⟩
        · rw [if_neg h]; exact ⟨fun q => q.elim, fun q => h q.1⟩
theorem w_me : wE (pMe ms x n ga gl e s) Q X ↔ wE (ga e s) (fun o s => wO (clsV x s.obs o) fun c => wO (ms.lookup c) fun P => wE (gl e s) (fun vs s => wO (frzA vs) fun us => us.length + 1 = n ∧ wE (P (o :: us) s) Q X) X) X := by unfold pMe; simp only [wE_bind, w_callMe]
theorem w_cutS {k : Nat} {r : PS} : wS (cutS k r) K QS XS ↔ wS r (fun e s => wO (cutB k s) fun s => K (dropOb k e) s) (fun f e s => wO (cutB k s) fun s => flOk f = true ∧ QS f (dropOb k e) s) (fun x e s => wO (cutB k s) fun s => XS x (dropOb k e) s) := by
  cases r with
  | stuck => exact Iff.rfl
  | exc x e s =>
    show wS (match cutB k s with
      | some s => PS.exc x (dropOb k e) s
      | none => .stuck) K QS XS ↔ wO (cutB k s) _
    cases cutB k s <;> exact Iff.rfl
  | go f e s =>
    cases hq : cutB k s with
    | none =>
      have e1 : cutS k (.go f e s) = .stuck := by unfold cutS; simp only [hq]
      rw [e1]
      cases f <;> simp only [wS, hq, wO]
    | some s2 =>
      cases f with
      | nx =>
        have e1 : cutS k (.go .nx e s) = .go .nx (dropOb k e) s2 := by unfold cutS; simp only [hq]; rfl
        rw [e1]
        simp only [wS, hq, wO]
      | bk =>
        have e1 : cutS k (.go .bk e s) = .go .bk (dropOb k e) s2 := by unfold cutS; simp only [hq]; rfl
        rw [e1]
        simp only [wS, hq, wO, flOk, true_and]
      | ct =>
        have e1 : cutS k (.go .ct e s) = .go .ct (dropOb k e) s2 := by unfold cutS; simp only [hq]; rfl
        rw [e1]
        simp only [wS, hq, wO, flOk, true_and]
      | rt v =>
        by_cases hv : flOk (.rt v) = true
        · have e1 : cutS k (.go (.rt v) e s) = .go (.rt v) (dropOb k e) s2 := by unfold cutS; simp only [hq]; exact if_pos hv
          rw [e1]
          simp only [wS, hq, wO, hv, true_and]
        · have e1 : cutS k (.go (.rt v) e s) = .stuck := by unfold cutS; simp only [hq]; exact if_neg hv
          rw [e1]
          simp only [wS, hq, wO]
          exact ⟨fun h => h.elim, fun h => hv h.1⟩
theorem w_newS {i : Nat} : wS (pNewS i c n P gl f e s) K QS XS ↔ wE (gl e s) (fun vs s => wO (frzA vs) fun us => us.length + 1 = n ∧ wE (P (.ob s.obs.length :: us) (newB c s)) (fun v s1 => isNo v ∧ wS (f (e.set i (.ob s.obs.length)) s1)
      (fun e s1 => wO (cutB s.obs.length s1) fun s2 => K (dropOb s.obs.length e) s2) (fun f e s1 => wO (cutB s.obs.length s1) fun s2 => flOk f = true ∧ QS f (dropOb s.obs.length e) s2) (fun x e s1 => wO (cutB s.obs.length s1) fun s2 => XS x (dropOb s.obs.length e) s2))
      (fun x s1 => wO (cutB s.obs.length s1) fun s2 => XS x (dropOb s.obs.length e) s2)) (fun x s => XS x e s) := by
  unfold pNewS
  rw [wS_prs]
  refine iff_mono fun vs s => ?_
  cases frzA vs with
  | none => exact Iff.rfl
  | some us =>
    simp only [wO_some]
    by_cases h : us.length + 1 = n
    · rw [if_pos h, w_cutS]
      refine Iff.trans ?_ (and_iff_right h).symm
      cases P (.ob s.obs.length :: us) (newB c s) with
      | stuck => exact Iff.rfl
      | exc x s1 => exact Iff.rfl
      | ok v s1 =>
        cases v with
        | d y =>
          cases y with
          | none => exact ⟨fun q => ⟨trivial, q⟩, fun q => q.2⟩
          | _ => exact ⟨fun q => q.elim, fun q => q.1.elim⟩
        | _ => exact ⟨fun q => q.elim, fun q => q.1.elim⟩
    · rw [if_neg h]
      exact ⟨fun q => q.elim, fun q => h q.1⟩
theorem w_lf {x : PEx} {d : PyData} (h : x.fs.lookup fl = some d) (hd : flatD d = true) : wE (pLf x fl e s) Q X ↔ Q (.d d) s := by
  unfold pLf
  rw [h]
  simp only [if_pos hd]
  exact Iff.rfl
theorem w_try {sub : Str → Str → Option Bool} {hs : List PHd} : wS (pTry sub f hs e s) K QS XS ↔ wS (f e s) K QS (fun x e1 s1 => wS (catchP sub hs x e1 s1) K QS XS) := by
  unfold pTry
  cases f e s with
  | stuck => exact Iff.rfl
  | exc x e s => exact Iff.rfl
  | go fl e s => cases fl <;> exact Iff.rfl
theorem w_offP {o : Option Nat} {r : PS} : wS (offP o r) K QS XS ↔ wS r (fun e s => K (unsetP o e) s) (fun f e s => QS f (unsetP o e) s) (fun _ _ _ => False) := by
  cases r with
  | stuck => exact Iff.rfl
  | exc x e s => exact Iff.rfl
  | go fl e s => cases fl <;> exact Iff.rfl
theorem w_catch {sub : Str → Str → Option Bool} {hs : List PHd} {o : Option Nat} {b : PEx → Ps} {x : PEx} (h : sub x.cls c = some true) : wS (catchP sub (⟨c, o, b⟩ :: hs) x e s) K QS XS ↔ wS (b x (unsetP o e) s) (fun e s => K (unsetP o e) s) (fun f e s => QS f (unsetP o e) s) (fun _ _ _ => False) := by
  have e1 : catchP sub (⟨c, o, b⟩ :: hs) x e s = offP o (b x (unsetP o e) s) := by
    show (match sub x.cls c with
      | some true => offP o (b x (unsetP o e) s)
      | some false => catchP sub hs x e s
      | none => .stuck) = _
    rw [h]
  rw [e1, w_offP]
theorem w_hRun {b : PEx → Ps} {x : PEx} (h : x.cls = c) : wS (hRunP c b x e s) K QS XS ↔ wS (b x e s) K QS XS := by
  unfold hRunP
  rw [if_pos h]
theorem w_split : wE (pSplit ga gb e s) Q X ↔ wE (ga e s) (fun a s => wO (strV a) fun x => wE (gb e s) (fun b s => wO (strV b) fun y => (y.length ≠ 0 ∧ x.length + 2 ≤ LIM) ∧ Q (.fr (.l ((Txt.split x y).map .str))) s) X) X := by
  unfold pSplit
  rw [wE_bind]
  refine iff_mono fun a s => ?_
  cases a with
  | d a =>
    cases a with
    | str x =>
      simp only [strV, wO_some]
      rw [wE_bind]
      refine iff_mono fun b s => ?_
      cases b with
      | d b =>
        cases b with
        | str y =>
          simp only [wO_some]
          by_cases h : y.length ≠ 0 ∧ x.length + 2 ≤ LIM
          · rw [if_pos h]; exact ⟨fun q => ⟨h, q⟩, fun q => q.2⟩
          · rw [if_neg h]; exact ⟨fun q => q.elim, fun q => h q.1⟩
        | _ => exact Iff.rfl
      | _ => exact Iff.rfl
    | _ => exact Iff.rfl
  | _ => exact Iff.rfl
end
end PD
set_option Elab.async false
set_option linter.all false
set_option maxRecDepth 100000
set_option maxHeartbeats 4000000
namespace PD
open PySem PySem.Spec PyProof.Rows L2 DL Hn Hs
def e2 (p : Str × Str) : PyData := .tuple [.str p.1, .str p.2]
def e3 (p : Str × Str × Str) : PyData := .tuple [.str p.1, .str p.2.1, .str p.2.2]
def eW (w : Str × List (Str × Str)) : PyData := .tuple [.str w.1, .tuple (w.2.map e2)]
def eN (n : Nat) : PyData := .int n
structure Hou where
  sg : List Str
  st : List (Str × Str)
  mv : List (Str × Str × Str)
  wt : List (Str × List (Str × Str))
def Hou.d (h : Hou) : PyData := .tuple [.tuple (h.sg.map .str), .tuple (h.st.map e2), .tuple (h.mv.map e3), .tuple (h.wt.map eW)]
def oN : Option Nat → PyData
  | none => .none
  | some n => .int n
def eP (p : Str × List Nat) : PyData := .tuple [.str p.1, .tuple (p.2.map eN)]
structure Fra where
  h : Hou
  ss : List (Str × List Nat)
  cap : Option Nat
def Fra.d (f : Fra) : PyData := .tuple [f.h.d, .tuple (f.ss.map eP), oN f.cap]
structure Sta where
  q : Str
  lot : List Nat
  left : Option Nat
def Sta.d (t : Sta) : PyData := .tuple [.str t.q, .tuple (t.lot.map eN), oN t.left]
def oT : Option Sta → PyData
  | none => .none
  | some t => t.d
def allSg : List Str := ["a", "b", "c", "d", "e", "f"]
def allSt : List Str := ["q", "r", "s", "t", "w", "pa", "pb", "pc", "pd", "pe", "pf"]
def allWd : List Str := ["u", "v", "ua", "ub", "uc", "va", "vb", "vc", "vd"]
def allKd : List Str := ["yes", "no", "open"]
def allWt : List Str := ["x", "y", "z"]
structure HouOk (h : Hou) : Prop where
  sg : ∃ n, 1 ≤ n ∧ n ≤ 6 ∧ h.sg = allSg.take n
  st0 : 1 ≤ h.st.length
  st1 : h.st.length ≤ 7
  stN : (h.st.map (·.1)).Nodup
  stM : ∀ p ∈ h.st, p.1 ∈ allSt ∧ p.2 ∈ allKd
  mv1 : h.mv.length ≤ 15
  mvM : ∀ m ∈ h.mv, m.1 ∈ h.st.map (·.1) ∧ m.2.1 ∈ h.sg ∧ m.2.2 ∈ h.st.map (·.1)
  mvN : (h.mv.map fun m => (m.1, m.2.1)).Nodup
  wt : ∃ n, 1 ≤ n ∧ n ≤ 3 ∧ h.wt.map (·.1) = allWt.take n
  wtM : ∀ w ∈ h.wt, (w.2.map (·.1)).Sublist h.sg ∧ ∀ p ∈ w.2, p.2 ∈ allWd
structure FraOk (f : Fra) : Prop where
  h : HouOk f.h
  s0 : 1 ≤ f.ss.length
  s1 : f.ss.length ≤ 3
  sM : ∀ p ∈ f.ss, p.1 ∈ f.h.st.map (·.1) ∧ p.2.Sublist (List.range f.h.wt.length)
  cap : ∀ n, f.cap = some n → n ≤ 3
  asc : f.ss.Pairwise fun p q => PySem.W.dataLt (eP p) (eP q) = true
theorem HouOk.wtL {h : Hou} (k : HouOk h) : 1 ≤ h.wt.length ∧ h.wt.length ≤ 3 := by
  obtain ⟨n, h1, h2, e⟩ := k.wt
  have := congrArg List.length e
  rw [List.length_map, List.length_take] at this
  have e3 : allWt.length = 3 := rfl
  omega
end PD
set_option Elab.async false
set_option linter.all false
set_option maxRecDepth 100000
set_option maxHeartbeats 4000000
namespace PD
open PySem PySem.Spec PyProof.Rows L2 DL Hn Hs
end PD
set_option Elab.async false
set_option linter.all false
set_option maxRecDepth 100000
set_option maxHeartbeats 4000000
namespace PD
open PySem PySem.Spec PyProof.Rows L2 DL Hn Hs
section
variable {s : Bg} {h : Hou} {f : Fra} {q a : Str} {t : Sta} {x : PyData} {as : List Str} {i n : Nat}
theorem psz_tup {ds : List PyData} : psz (.tuple ds) = pszs ds + 1 := by simp [psz]
end
end PD
set_option Elab.async false
set_option linter.all false
set_option maxRecDepth 100000
set_option maxHeartbeats 4000000
namespace PD
open PySem PySem.Spec PyProof.Rows L2 DL Hn Hs
section
variable {s : Bg} {h : Hou} {f : Fra} {q a : Str} {t : Sta} {x : PyData} {as : List Str} {i n : Nat}
theorem r62 {n : Nat} (h : n ≤ 1000000) : range62 (n : Int) = true := decide_eq_true (by omega)
end
end PD
set_option Elab.async false
set_option linter.all false
set_option maxRecDepth 100000
set_option maxHeartbeats 4000000
namespace PD
open PySem PySem.Spec PyProof.Rows L2 DL Hn Hs
end PD
set_option Elab.async false
set_option linter.all false
set_option maxRecDepth 100000
set_option maxHeartbeats 4000000
namespace PD
open PySem PySem.Spec PyProof.Rows L2 DL Hn Hs
end PD
set_option Elab.async false
set_option linter.all false
set_option maxRecDepth 100000
set_option maxHeartbeats 4000000
namespace PD
open PySem PySem.Spec PyProof.Rows L2 DL Hn Hs
end PD
set_option Elab.async false
set_option linter.all false
set_option maxRecDepth 100000
set_option maxHeartbeats 4000000
namespace PD
open PySem PySem.Spec PyProof.Rows L2 DL Hn Hs
end PD
set_option Elab.async false
set_option linter.all false
set_option maxRecDepth 100000
set_option maxHeartbeats 4000000
namespace PD
open PySem PySem.Spec PyProof.Rows L2 DL Hn Hs
end PD
set_option Elab.async false
set_option linter.all false
set_option maxRecDepth 100000
set_option maxHeartbeats 4000000
namespace PD
open PySem PySem.Spec PyProof.Rows L2 DL Hn Hs
end PD
set_option Elab.async false
set_option linter.all false
set_option maxRecDepth 100000
set_option maxHeartbeats 4000000
namespace PD
open PySem PySem.Spec PyProof.Rows L2 DL Hn Hs
def allTx : List Str := allSg ++ allSt ++ allWd ++ allKd ++ allWt
mutual
/-- small data: tuples of few texts, small numbers, None -/
def smD : PyData → Prop
  | .none => True
  | .int i => 0 ≤ i ∧ i ≤ 9
  | .str x => x ∈ allTx
  | .tuple ds => smDs ds
  | _ => False
def smDs : List PyData → Prop
  | [] => True
  | x :: r => smD x ∧ smDs r
end
theorem allTx_ok : ∀ x ∈ allTx, PyData.strOk x = true ∧ (PySem.reprText x).length ≤ 20 := by decide +kernel
mutual
theorem sm_lay : ∀ {d : PyData}, smD d → d.canLay0 = true
  | .none, _ => by rw [PyData.canLay0]
  | .bool _, h => by simp [smD] at h
  | .int _, _ => by rw [PyData.canLay0]
  | .str x, h => by rw [PyData.canLay0]; rw [smD] at h; exact (allTx_ok x h).1
  | .tuple ds, h => by rw [PyData.canLay0]; exact sm_lays (by rw [smD] at h; exact h)
  | .list _, h => by simp [smD] at h
  | .dict _, h => by simp [smD] at h
theorem sm_lays : ∀ {ds : List PyData}, smDs ds → PyData.canLayAll0 ds = true
  | [], _ => by rw [PyData.canLayAll0]
  | x :: r, h => by
    rw [smDs] at h
    rw [PyData.canLayAll0, sm_lay h.1, sm_lays h.2]
    rfl
end
theorem dp_of {k : Nat} {d : PyData} (h : smD d) (hd : d.depth ≤ k) : sh k d := ⟨sm_lay h, hd⟩
theorem FraOk.lot {f : Fra} (k : FraOk f) {l : List Nat} (h : l.Sublist (List.range f.h.wt.length)) : l.length ≤ 3 ∧ ∀ n ∈ l, n < 3 := by
  have hw := k.h.wtL
  have h1 := h.length_le
  rw [List.length_range] at h1
  refine ⟨by omega, fun n hn => ?_⟩
  have := List.mem_range.mp (h.subset hn)
  omega
end PD
set_option Elab.async false
set_option linter.all false
set_option maxRecDepth 100000
set_option maxHeartbeats 4000000
namespace PD
open PySem PySem.Spec PyProof.Rows L2 DL Hn Hs
end PD
set_option Elab.async false
set_option linter.all false
set_option maxRecDepth 100000
set_option maxHeartbeats 4000000
namespace PD
open PySem PySem.Spec PyProof.Rows L2 DL Hn Hs
end PD
set_option Elab.async false
set_option linter.all false
set_option maxRecDepth 100000
set_option maxHeartbeats 4000000
namespace PD
open PySem PySem.Spec PyProof.Rows L2 DL Hn Hs
end PD
set_option Elab.async false
set_option linter.all false
set_option maxRecDepth 100000
set_option maxHeartbeats 4000000
namespace PD
open PySem PySem.Spec PyProof.Rows L2 DL Hn Hs
section
variable {Q : PV → Prop} {kvs : List (PyData × PyData)} {x y : PyData} {k : NestedKey}
theorem o_sum {v : PV} {l : List Int} (h : lstP v = some (l.map .int)) : wO (pSum1 [v]) Q ↔ Q (.d (.int l.sum)) := by
  have e1 : ∀ l : List Int, intsP (l.map .int) = some l := fun l => by
    induction l with
    | nil => rfl
    | cons a l ih =>
      show (intsP (l.map .int)).map (a :: ·) = _
      rw [ih]; rfl
  have e : pSum1 [v] = some (.d (.int l.sum)) := by
    unfold pSum1 lintsP
    simp only [h, e1]
  rw [e]; exact Iff.rfl
end
end PD
set_option Elab.async false
set_option linter.all false
set_option maxRecDepth 100000
set_option maxHeartbeats 2000000
namespace K02
open PySem PySem.Spec PyProof.Rows L2 DL Hn
noncomputable section
def sbl : List ((Str × Str) × Bool) := [(("BadText", "BadText"), true)]
def lml : List Str := []
def tll : List (Str × Str) := []
def d_DIGITS : PyData := (.str "0123456789")
def d_LETTERS : PyData := (.str "abcdefghijklmnopqrstuvwxyz")
def d_MOST_DIGITS : PyData := (.int 6)
def d_MOST_NAME : PyData := (.int 8)
def d_RESERVED : PyData := (.tuple [(.str "by"), (.str "hears"), (.str "move"), (.str "no"), (.str "open"), (.str "sign"), (.str "sounds"), (.str "state"), (.str "to"), (.str "witness"), (.str "yes")])
/-- words_of(text): 0=text 1=found 2=column 3=word -/
def b_words_of : Sm :=
sSeq (sPar [1, 2] (aC (eN lstO (aN)) (aC (eC (.d (.int 1))) aN))) <|
sSeq (sFor (iVal (eSplit (eV 0) (eC (.d (.str " "))))) (.name 3)
(sSeq (sDrop (eM appO (eV 1) (aC (eN tupO (aC (eV 3) (aC (eV 2) aN))) aN))) <|
sAug 2 iaddO (e2 addO (eN lenO (aC (eV 3) aN)) (eC (.d (.int 1)))))) <|
sRet (eN tupleO (aC (eV 1) aN))
@[irreducible] def N_words_of : Fn := runF 4 b_words_of
/-- Words___init__(self, text, number): 0=self 1=text 2=number -/
def b_Words___init__ : Sm :=
sSeq (sFSet ["Words"] "its_words" (eV 0) (eCall 1 N_words_of (aC (eV 1) aN))) <|
sFPar ["Words"] 0 ["its_end", "its_number", "its_at"] (eN tupO (aC (e2 addO (eN lenO (aC (eV 1) aN)) (eC (.d (.int 2)))) (aC (eV 2) (aC (eC (.d (.int 0))) aN))))
@[irreducible] def N_Words___init__ : Fn := runF 3 b_Words___init__
/-- Words_peek(self): 0=self -/
def b_Words_peek : Sm :=
sRet (eIf (b2 ltO (e1 (fldO ["Words"] "its_at") (eV 0)) (eN lenO (aC (e1 (fldO ["Words"] "its_words") (eV 0)) aN))) (e2 ixO (e2 ixO (e1 (fldO ["Words"] "its_words") (eV 0)) (e1 (fldO ["Words"] "its_at") (eV 0))) (eC (.d (.int 0)))) (eC (.d .none)))
@[irreducible] def N_Words_peek : Fn := runF 1 b_Words_peek
/-- Words_need(self, is_so): 0=self 1=is_so 2=is_there -/
def b_Words_need : Sm :=
sSeq (sIf (bOr (bNot (bV (eV 1))) (b2 isNO (eMe [("Words", N_Words_peek)] "peek" 1 (eV 0) aN) (eC (.d .none))))
(sSeq (sSet 2 (e2 ltO (e1 (fldO ["Words"] "its_at") (eV 0)) (eN lenO (aC (e1 (fldO ["Words"] "its_words") (eV 0)) aN)))) <|
sRaise "BadText" 2 [("line", 0), ("column", 1)] (aC (e1 (fldO ["Words"] "its_number") (eV 0)) (aC (eIf (bV (eV 2)) (e2 ixO (e2 ixO (e1 (fldO ["Words"] "its_words") (eV 0)) (e1 (fldO ["Words"] "its_at") (eV 0))) (eC (.d (.int 1)))) (e1 (fldO ["Words"] "its_end") (eV 0))) aN)))
(sNop)) <|
sSeq (sFAug ["Words"] "its_at" iaddO (eV 0) (eC (.d (.int 1)))) <|
sRet (e2 ixO (e2 ixO (e1 (fldO ["Words"] "its_words") (eV 0)) (e2 subO (e1 (fldO ["Words"] "its_at") (eV 0)) (eC (.d (.int 1))))) (eC (.d (.int 0))))
@[irreducible] def N_Words_need : Fn := runF 3 b_Words_need
/-- Words_close(self): 0=self -/
def b_Words_close : Sm :=
(sIf (b2 nnO (eMe [("Words", N_Words_peek)] "peek" 1 (eV 0) aN) (eC (.d .none)))
(sDrop (eMe [("Words", N_Words_need)] "need" 2 (eV 0) (aC (eC (.d (.bool false))) aN)))
(sNop))
@[irreducible] def N_Words_close : Fn := runF 1 b_Words_close
/-- is_name(thing): 0=thing 1=sign -/
def b_is_name : Sm :=
sSeq (sIf (bOr (bNot (bV (eIsi ["str"] (eV 0)))) (bOr (bNot (bCh leO leO (eC (.d (.int 1))) (eN lenO (aC (eV 0) aN)) (eC (.d d_MOST_NAME)))) (b2 inO (eV 0) (eC (.d d_RESERVED)))))
(sRet (eC (.d (.bool false))))
(sNop)) <|
sRet (eN allO (aC (eLc (iVal (eV 0)) (.name 1) (fun _ m => .ok true m) (e2 inO (eV 1) (eC (.d d_LETTERS))) [1]) aN))
@[irreducible] def N_is_name : Fn := runF 2 b_is_name
/-- Words_a_name(self): 0=self -/
def b_Words_a_name : Sm :=
sRet (eMe [("Words", N_Words_need)] "need" 2 (eV 0) (aC (eAnd (e2 nnO (eMe [("Words", N_Words_peek)] "peek" 1 (eV 0) aN) (eC (.d .none))) (eCall 1 N_is_name (aC (eMe [("Words", N_Words_peek)] "peek" 1 (eV 0) aN) aN))) aN))
@[irreducible] def N_Words_a_name : Fn := runF 1 b_Words_a_name
/-- is_count(word): 0=word 1=sign -/
def b_is_count : Sm :=
sSeq (sIf (bOr (bNot (bCh leO leO (eC (.d (.int 1))) (eN lenO (aC (eV 0) aN)) (eC (.d d_MOST_DIGITS)))) (bNot (bV (eN allO (aC (eLc (iVal (eV 0)) (.name 1) (fun _ m => .ok true m) (e2 inO (eV 1) (eC (.d d_DIGITS))) [1]) aN)))))
(sRet (eC (.d (.bool false))))
(sNop)) <|
sRet (eOr (e2 eqO (eV 0) (eC (.d (.str "0")))) (e2 neO (e2 ixO (eV 0) (eC (.d (.int 0)))) (eC (.d (.str "0")))))
@[irreducible] def N_is_count : Fn := runF 2 b_is_count
/-- Words_number(self): 0=self -/
def b_Words_number : Sm :=
sRet (eN intOA (aC (eMe [("Words", N_Words_need)] "need" 2 (eV 0) (aC (eAnd (e2 nnO (eMe [("Words", N_Words_peek)] "peek" 1 (eV 0) aN) (eC (.d .none))) (eCall 1 N_is_count (aC (eMe [("Words", N_Words_peek)] "peek" 1 (eV 0) aN) aN))) aN)) aN))
@[irreducible] def N_Words_number : Fn := runF 1 b_Words_number
/-- Words_mark(self, word): 0=self 1=word -/
def b_Words_mark : Sm :=
sDrop (eMe [("Words", N_Words_need)] "need" 2 (eV 0) (aC (e2 eqO (eMe [("Words", N_Words_peek)] "peek" 1 (eV 0) aN) (eV 1)) aN))
@[irreducible] def N_Words_mark : Fn := runF 2 b_Words_mark
/-- _law_taken(one, way, mark): 0=one 1=way 2=mark -/
def b__law_taken : Sm :=
sSeq (sIf (b2 eqO (eV 1) (eC (.d (.int 0))))
(sRet (eMe [("Words", N_Words_a_name)] "a_name" 1 (eV 0) aN))
(sNop)) <|
sSeq (sIf (b2 eqO (eV 1) (eC (.d (.int 1))))
(sRet (eMe [("Words", N_Words_number)] "number" 1 (eV 0) aN))
(sNop)) <|
sRet (eIf (b2 eqO (eV 1) (eC (.d (.int 2)))) (eMe [("Words", N_Words_mark)] "mark" 2 (eV 0) (aC (eV 2) aN)) (eMe [("Words", N_Words_need)] "need" 2 (eV 0) (aC (e2 eqO (eV 1) (eC (.d (.int 3)))) aN)))
@[irreducible] def N__law_taken : Fn := runF 3 b__law_taken
/-- _law_is_name(word): 0=word 1=some 2=sign -/
def b__law_is_name : Sm :=
sSeq (sSet 1 (eN lstO (aC (eC (.d (.str "by"))) (aC (eC (.d (.str "hears"))) (aC (eC (.d (.str "move"))) (aC (eC (.d (.str "no"))) (aC (eC (.d (.str "open"))) (aC (eC (.d (.str "sign"))) (aC (eC (.d (.str "sounds"))) (aC (eC (.d (.str "state"))) (aC (eC (.d (.str "to"))) (aC (eC (.d (.str "witness"))) (aC (eC (.d (.str "yes"))) aN))))))))))))) <|
sSeq (sIf (bOr (bNot (bV (eIsi ["str"] (eV 0)))) (bOr (bNot (bCh leO leO (eC (.d (.int 1))) (eN lenO (aC (eV 0) aN)) (eC (.d (.int 8))))) (b2 inO (eV 0) (eV 1))))
(sRet (eC (.d (.bool false))))
(sNop)) <|
sRet (e2 eqO (eLc (iVal (eV 0)) (.name 2) (b2 niO (eV 2) (eC (.d (.str "abcdefghijklmnopqrstuvwxyz")))) (eC (.d (.int 1))) [2]) (eN lstO (aN)))
@[irreducible] def N__law_is_name : Fn := runF 3 b__law_is_name
/-- _law_is_count(word): 0=word 1=sign -/
def b__law_is_count : Sm :=
sSeq (sIf (bOr (bNot (bCh leO leO (eC (.d (.int 1))) (eN lenO (aC (eV 0) aN)) (eC (.d (.int 6))))) (b2 neO (eLc (iVal (eV 0)) (.name 1) (b2 niO (eV 1) (eC (.d (.str "0123456789")))) (eC (.d (.int 1))) [1]) (eN lstO (aN))))
(sRet (eC (.d (.bool false))))
(sNop)) <|
sRet (eOr (e2 eqO (eV 0) (eC (.d (.str "0")))) (e2 neO (e2 ixO (eV 0) (eC (.d (.int 0)))) (eC (.d (.str "0")))))
@[irreducible] def N__law_is_count : Fn := runF 2 b__law_is_count
/-- _law_are_words_right(bag): 0=bag 1=some 2=text 3=number 4=words 5=columns 6=one 7=at 8=step 9=word 10=way 11=mark 12=good 13=told 14=due 15=e -/
def b__law_are_words_right : Sm :=
sSeq (sSet 1 (eN lstO (aC (eC (.d (.str "ann"))) (aC (eC (.d (.str "yes"))) (aC (eC (.d (.str "0"))) (aC (eC (.d (.str "012"))) (aC (eC (.d (.str "12"))) (aC (eC (.d (.str "123456"))) (aC (eC (.d (.str "1234567"))) (aC (eC (.d (.str ""))) (aC (eC (.d (.str "-1"))) (aC (eC (.d (.str "Ann"))) (aC (eC (.d (.str "a"))) (aC (eC (.d (.str "hillsides"))) (aC (eC (.d (.str "by"))) (aC (eC (.d (.str "witness"))) aN)))))))))))))))) <|
sSeq (sPar [2, 3] (aC (eJoin (eC (.d (.str " "))) (eLc (iRan1 (aC (eCall 2 N__law_take (aC (eV 0) (aC (eC (.d (.int 8))) aN))) aN)) (.name 9) (fun _ m => .ok true m) (eCall 2 N__law_some (aC (eV 0) (aC (eV 1) aN))) [9])) (aC (e2 addO (eC (.d (.int 1))) (eCall 2 N__law_take (aC (eV 0) (aC (eC (.d (.int 5))) aN)))) aN))) <|
sSeq (sSet 4 (eSplit (eV 2) (eC (.d (.str " "))))) <|
sSeq (sSet 5 (eLc (iRan1 (aC (eN lenO (aC (eV 4) aN)) aN)) (.name 7) (fun _ m => .ok true m) (e2 addO (eC (.d (.int 1))) (eN sumO1 (aC (eLc (iVal (eSl (eV 4) oNone (oSome (eV 7)))) (.name 6) (fun _ m => .ok true m) (e2 addO (eN lenO (aC (eV 6) aN)) (eC (.d (.int 1)))) [6]) aN))) [7])) <|
sSeq (sIf (bOr (bNot (bV (eCall 2 N__law_alike (aC (eCall 1 N_words_of (aC (eV 2) aN)) (aC (eN tupleO (aC (eN lzO (aC (eV 4) (aC (eV 5) aN))) aN)) aN))))) (b2 neO (eLc (iVal (eV 4)) (.name 9) (b2 neO (eCall 1 N_is_count (aC (eV 9) aN)) (eCall 1 N__law_is_count (aC (eV 9) aN))) (eC (.d (.int 1))) [9]) (eN lstO (aN))))
(sRet (eC (.d (.bool false))))
(sNop)) <|
sSeq (sPar [6, 7] (aC (eNew "Words" 3 N_Words___init__ (aC (eV 2) (aC (eV 3) aN))) (aC (eC (.d (.int 0))) aN))) <|
sSeq (sFor (iRan1 (aC (e2 addO (eN lenO (aC (eV 4) aN)) (eC (.d (.int 3)))) aN)) (.name 8)
(sSeq (sSet 9 (eIf (b2 ltO (eV 7) (eN lenO (aC (eV 4) aN))) (e2 ixO (eV 4) (eV 7)) (eC (.d .none)))) <|
sSeq (sIf (b2 neO (eMe [("Words", N_Words_peek)] "peek" 1 (eV 6) aN) (eV 9))
(sRet (eC (.d (.bool false))))
(sNop)) <|
sSeq (sPar [10, 11] (aC (eCall 2 N__law_take (aC (eV 0) (aC (eC (.d (.int 5))) aN))) (aC (eCall 2 N__law_some (aC (eV 0) (aC (e2 addO (eV 4) (eN lstO (aC (eC (.d (.str "zz"))) aN))) aN))) aN))) <|
sSeq (sSet 12 (eAnd (e2 nnO (eV 9) (eC (.d .none))) (eAnd (eOr (e2 neO (eV 10) (eC (.d (.int 0)))) (eCall 1 N__law_is_name (aC (eV 9) aN))) (eAnd (eOr (e2 neO (eV 10) (eC (.d (.int 1)))) (eCall 1 N__law_is_count (aC (eV 9) aN))) (eAnd (eOr (e2 neO (eV 10) (eC (.d (.int 2)))) (e2 eqO (eV 9) (eV 11))) (e2 neO (eV 10) (eC (.d (.int 4))))))))) <|
(sTry (subOf sbl) (sSeq (sSet 13 (eCall 3 N__law_taken (aC (eV 6) (aC (eV 10) (aC (eV 11) aN))))) <|
sSeq (sSet 14 (eIf (bAnd (b2 eqO (eV 10) (eC (.d (.int 1)))) (bV (eV 12))) (eN intOA (aC (eV 9) aN)) (eIf (b2 eqO (eV 10) (eC (.d (.int 2)))) (eC (.d .none)) (eV 9)))) <|
sSeq (sIf (bOr (bNot (bV (eV 12))) (bNot (bV (eCall 2 N__law_alike (aC (eV 13) (aC (eV 14) aN))))))
(sRet (eC (.d (.bool false))))
(sNop)) <|
sAug 7 iaddO (eC (.d (.int 1)))) [⟨"BadText", some 15, hRun "BadText" fun x =>
sIf (bOr (bV (eV 12)) (b2 neO (eN tupO (aC (eLf x "line") (aC (eLf x "column") aN))) (eN tupO (aC (eV 3) (aC (eIf (b2 ltO (eV 7) (eN lenO (aC (eV 4) aN))) (e2 ixO (eV 5) (eV 7)) (e2 addO (eN lenO (aC (eV 2) aN)) (eC (.d (.int 2))))) aN)))))
(sRet (eC (.d (.bool false))))
(sNop)⟩]))) <|
(sTry (subOf sbl) (sSeq (sDrop (eMe [("Words", N_Words_close)] "close" 1 (eV 6) aN)) <|
sRet (e2 geO (eV 7) (eN lenO (aC (eV 4) aN)))) [⟨"BadText", some 15, hRun "BadText" fun x =>
sRet (eAnd (e2 ltO (eV 7) (eN lenO (aC (eV 4) aN))) (e2 eqO (eN tupO (aC (eLf x "line") (aC (eLf x "column") aN))) (eN tupO (aC (eV 3) (aC (e2 ixO (eV 5) (eV 7)) aN)))))⟩])
@[irreducible] def N__law_are_words_right : Fn := runF 16 b__law_are_words_right
/-- law(script): 0=script 1=bag 2=turn -/
def b_law : Sm :=
sSeq (sSet 1 (eCall 1 N__law_bag (aC (eV 0) aN))) <|
sSeq (sFor (iRan1 (aC (eC (.d (.int 14))) aN)) (.name 2)
((sIf (bNot (bV (eCall 1 N__law_are_words_right (aC (eV 1) aN))))
(sRet (eC (.d (.bool false))))
(sNop)))) <|
sRet (eAnd (e2 isBO (eCall 1 N_is_count (aC (eC (.d (.str ""))) aN)) (eC (.d (.bool false)))) (eAnd (e2 isBO (eCall 1 N_is_count (aC (eC (.d (.str "000000"))) aN)) (eC (.d (.bool false)))) (e2 isBO (eCall 1 N_is_count (aC (eC (.d (.str "999999"))) aN)) (eC (.d (.bool true))))))
@[irreducible] def N_law : Fn := runF 3 b_law
end
end K02
set_option Elab.async false
set_option linter.all false
set_option maxRecDepth 100000
set_option maxHeartbeats 2000000
namespace K02
open PySem PySem.Spec PyProof.Rows L2 DL PD Hn
noncomputable section
/-- words_of(text): 0=text 1=found 2=column 3=word -/
def q_words_of : Ps :=
pSeq (pPar [1, 2] [true, false] (paC (pN pLst (paN)) (paC (pC (.int 1)) paN))) <|
pSeq (pFor (piV (pSplit (pV 0) (pC (.str " ")))) (.name 3)
(pSeq (pApp 1 (paC (pN pTup (paC (pV 3) (paC (pV 2) paN))) paN)) <|
pAug 2 pIadd (p2 pAdd (pN pLen (paC (pV 3) paN)) (pC (.int 1))))) <|
pRet (pN pTuple (paC (pV 1) paN))
@[irreducible] def P_words_of : PFn := runP 4 q_words_of
/-- Words___init__(self, text, number): 0=self 1=text 2=number -/
def q_Words___init__ : Ps :=
pSeq (pFSet ["Words"] "its_words" (pV 0) (pCall 1 P_words_of (paC (pV 1) paN))) <|
pFPar ["Words"] 0 ["its_end", "its_number", "its_at"] (pN pTup (paC (p2 pAdd (pN pLen (paC (pV 1) paN)) (pC (.int 2))) (paC (pV 2) (paC (pC (.int 0)) paN))))
@[irreducible] def P_Words___init__ : PFn := runP 3 q_Words___init__
/-- Words_peek(self): 0=self -/
def q_Words_peek : Ps :=
pRet (pIf (b2P pLt (pFld ["Words"] "its_at" (pV 0)) (pN pLen (paC (pFld ["Words"] "its_words" (pV 0)) paN))) (p2 pIx (p2 pIx (pFld ["Words"] "its_words" (pV 0)) (pFld ["Words"] "its_at" (pV 0))) (pC (.int 0))) (pC .none))
@[irreducible] def P_Words_peek : PFn := runP 1 q_Words_peek
/-- Words_need(self, is_so): 0=self 1=is_so 2=is_there -/
def q_Words_need : Ps :=
pSeq (pIfS (bOrP (bNotP (bVP (pV 1))) (b2P pIsN (pMe [("Words", P_Words_peek)] "peek" 1 (pV 0) (paN)) (pC .none)))
(pSeq (pSetF 2 (p2 pLt (pFld ["Words"] "its_at" (pV 0)) (pN pLen (paC (pFld ["Words"] "its_words" (pV 0)) paN)))) <|
pRaise "BadText" 2 [("line", 0), ("column", 1)] (paC (pFld ["Words"] "its_number" (pV 0)) (paC (pIf (bVP (pV 2)) (p2 pIx (p2 pIx (pFld ["Words"] "its_words" (pV 0)) (pFld ["Words"] "its_at" (pV 0))) (pC (.int 1))) (pFld ["Words"] "its_end" (pV 0))) paN)))
(pNop)) <|
pSeq (pFAug ["Words"] "its_at" pIadd (pV 0) (pC (.int 1))) <|
pRet (p2 pIx (p2 pIx (pFld ["Words"] "its_words" (pV 0)) (p2 pSub (pFld ["Words"] "its_at" (pV 0)) (pC (.int 1)))) (pC (.int 0)))
@[irreducible] def P_Words_need : PFn := runP 3 q_Words_need
/-- Words_close(self): 0=self -/
def q_Words_close : Ps :=
(pIfS (b2P pNn (pMe [("Words", P_Words_peek)] "peek" 1 (pV 0) (paN)) (pC .none))
(pDrop (pMe [("Words", P_Words_need)] "need" 2 (pV 0) (paC (pC (.bool false)) paN)))
(pNop))
@[irreducible] def P_Words_close : PFn := runP 1 q_Words_close
/-- is_name(thing): 0=thing 1=sign -/
def q_is_name : Ps :=
pSeq (pIfS (bOrP (bNotP (bVP (p1 (pIsi ["str"]) (pV 0)))) (bOrP (bNotP (bChP pLe pLe (pC (.int 1)) (pN pLen (paC (pV 0) paN)) (pC d_MOST_NAME))) (b2P pIn (pV 0) (pC d_RESERVED))))
(pRet (pC (.bool false)))
(pNop)) <|
pRet (pN pAll (paC (pLc (piV (pV 0)) (.name 1) (bTrueP) (p2 pIn (pV 1) (pC d_LETTERS)) [1]) paN))
@[irreducible] def P_is_name : PFn := runP 2 q_is_name
/-- Words_a_name(self): 0=self -/
def q_Words_a_name : Ps :=
pRet (pMe [("Words", P_Words_need)] "need" 2 (pV 0) (paC (pAndE (p2 pNn (pMe [("Words", P_Words_peek)] "peek" 1 (pV 0) (paN)) (pC .none)) (pCall 1 P_is_name (paC (pMe [("Words", P_Words_peek)] "peek" 1 (pV 0) (paN)) paN))) paN))
@[irreducible] def P_Words_a_name : PFn := runP 1 q_Words_a_name
/-- is_count(word): 0=word 1=sign -/
def q_is_count : Ps :=
pSeq (pIfS (bOrP (bNotP (bChP pLe pLe (pC (.int 1)) (pN pLen (paC (pV 0) paN)) (pC d_MOST_DIGITS))) (bNotP (bVP (pN pAll (paC (pLc (piV (pV 0)) (.name 1) (bTrueP) (p2 pIn (pV 1) (pC d_DIGITS)) [1]) paN)))))
(pRet (pC (.bool false)))
(pNop)) <|
pRet (pOrE (p2 pEq (pV 0) (pC (.str "0"))) (p2 pNe (p2 pIx (pV 0) (pC (.int 0))) (pC (.str "0"))))
@[irreducible] def P_is_count : PFn := runP 2 q_is_count
/-- Words_number(self): 0=self -/
def q_Words_number : Ps :=
pRet (pN pIntA (paC (pMe [("Words", P_Words_need)] "need" 2 (pV 0) (paC (pAndE (p2 pNn (pMe [("Words", P_Words_peek)] "peek" 1 (pV 0) (paN)) (pC .none)) (pCall 1 P_is_count (paC (pMe [("Words", P_Words_peek)] "peek" 1 (pV 0) (paN)) paN))) paN)) paN))
@[irreducible] def P_Words_number : PFn := runP 1 q_Words_number
/-- Words_mark(self, word): 0=self 1=word -/
def q_Words_mark : Ps :=
pDrop (pMe [("Words", P_Words_need)] "need" 2 (pV 0) (paC (p2 pEq (pMe [("Words", P_Words_peek)] "peek" 1 (pV 0) (paN)) (pV 1)) paN))
@[irreducible] def P_Words_mark : PFn := runP 2 q_Words_mark
/-- _law_taken(one, way, mark): 0=one 1=way 2=mark -/
def q__law_taken : Ps :=
pSeq (pIfS (b2P pEq (pV 1) (pC (.int 0)))
(pRet (pMe [("Words", P_Words_a_name)] "a_name" 1 (pV 0) (paN)))
(pNop)) <|
pSeq (pIfS (b2P pEq (pV 1) (pC (.int 1)))
(pRet (pMe [("Words", P_Words_number)] "number" 1 (pV 0) (paN)))
(pNop)) <|
pRet (pIf (b2P pEq (pV 1) (pC (.int 2))) (pMe [("Words", P_Words_mark)] "mark" 2 (pV 0) (paC (pV 2) paN)) (pMe [("Words", P_Words_need)] "need" 2 (pV 0) (paC (p2 pEq (pV 1) (pC (.int 3))) paN)))
@[irreducible] def P__law_taken : PFn := runP 3 q__law_taken
/-- _law_is_name(word): 0=word 1=some 2=sign -/
def q__law_is_name : Ps :=
pSeq (pSetF 1 (pN pLst (paC (pC (.str "by")) (paC (pC (.str "hears")) (paC (pC (.str "move")) (paC (pC (.str "no")) (paC (pC (.str "open")) (paC (pC (.str "sign")) (paC (pC (.str "sounds")) (paC (pC (.str "state")) (paC (pC (.str "to")) (paC (pC (.str "witness")) (paC (pC (.str "yes")) paN))))))))))))) <|
pSeq (pIfS (bOrP (bNotP (bVP (p1 (pIsi ["str"]) (pV 0)))) (bOrP (bNotP (bChP pLe pLe (pC (.int 1)) (pN pLen (paC (pV 0) paN)) (pC (.int 8)))) (b2P pIn (pV 0) (pV 1))))
(pRet (pC (.bool false)))
(pNop)) <|
pRet (p2 pEq (pLc (piV (pV 0)) (.name 2) (b2P pNi (pV 2) (pC (.str "abcdefghijklmnopqrstuvwxyz"))) (pC (.int 1)) [2]) (pN pLst (paN)))
@[irreducible] def P__law_is_name : PFn := runP 3 q__law_is_name
/-- _law_is_count(word): 0=word 1=sign -/
def q__law_is_count : Ps :=
pSeq (pIfS (bOrP (bNotP (bChP pLe pLe (pC (.int 1)) (pN pLen (paC (pV 0) paN)) (pC (.int 6)))) (b2P pNe (pLc (piV (pV 0)) (.name 1) (b2P pNi (pV 1) (pC (.str "0123456789"))) (pC (.int 1)) [1]) (pN pLst (paN))))
(pRet (pC (.bool false)))
(pNop)) <|
pRet (pOrE (p2 pEq (pV 0) (pC (.str "0"))) (p2 pNe (p2 pIx (pV 0) (pC (.int 0))) (pC (.str "0"))))
@[irreducible] def P__law_is_count : PFn := runP 2 q__law_is_count
/-- _law_are_words_right(bag): 0=bag 1=some 2=text 3=number 4=words 5=columns 6=one 7=at 8=step 9=word 10=way 11=mark 12=good 13=told 14=due 15=e -/
def q__law_are_words_right : Ps :=
pSeq (pSetF 1 (pN pLst (paC (pC (.str "ann")) (paC (pC (.str "yes")) (paC (pC (.str "0")) (paC (pC (.str "012")) (paC (pC (.str "12")) (paC (pC (.str "123456")) (paC (pC (.str "1234567")) (paC (pC (.str "")) (paC (pC (.str "-1")) (paC (pC (.str "Ann")) (paC (pC (.str "a")) (paC (pC (.str "hillsides")) (paC (pC (.str "by")) (paC (pC (.str "witness")) paN)))))))))))))))) <|
pSeq (pPar [2, 3] [false, false] (paC (pJoin (pC (.str " ")) (pLc (piR1 (paC (pCall 2 P__law_take (paC (pV 0) (paC (pC (.int 8)) paN))) paN)) (.name 9) (bTrueP) (pCall 2 P__law_some (paC (pV 0) (paC (pV 1) paN))) [9])) (paC (p2 pAdd (pC (.int 1)) (pCall 2 P__law_take (paC (pV 0) (paC (pC (.int 5)) paN)))) paN))) <|
pSeq (pSetF 4 (pSplit (pV 2) (pC (.str " ")))) <|
pSeq (pSetF 5 (pLc (piR1 (paC (pN pLen (paC (pV 4) paN)) paN)) (.name 7) (bTrueP) (p2 pAdd (pC (.int 1)) (pN pSum1 (paC (pLc (piV (pSl (pV 4) oNoneP (oSomeP (pV 7)))) (.name 6) (bTrueP) (p2 pAdd (pN pLen (paC (pV 6) paN)) (pC (.int 1))) [6]) paN))) [7])) <|
pSeq (pIfS (bOrP (bNotP (bVP (pCall 2 P__law_alike (paC (pCall 1 P_words_of (paC (pV 2) paN)) (paC (pN pTuple (paC (pN pLz (paC (pV 4) (paC (pV 5) paN))) paN)) paN))))) (b2P pNe (pLc (piV (pV 4)) (.name 9) (b2P pNe (pCall 1 P_is_count (paC (pV 9) paN)) (pCall 1 P__law_is_count (paC (pV 9) paN))) (pC (.int 1)) [9]) (pN pLst (paN))))
(pRet (pC (.bool false)))
(pNop)) <|
pNewS 6 "Words" 3 P_Words___init__ (paC (pV 2) (paC (pV 3) paN)) <|
pSeq (pPar [7] [false] (paC (pC (.int 0)) paN)) <|
pSeq (pFor (piR1 (paC (p2 pAdd (pN pLen (paC (pV 4) paN)) (pC (.int 3))) paN)) (.name 8)
(pSeq (pSetF 9 (pIf (b2P pLt (pV 7) (pN pLen (paC (pV 4) paN))) (p2 pIx (pV 4) (pV 7)) (pC .none))) <|
pSeq (pIfS (b2P pNe (pMe [("Words", P_Words_peek)] "peek" 1 (pV 6) (paN)) (pV 9))
(pRet (pC (.bool false)))
(pNop)) <|
pSeq (pPar [10, 11] [false, false] (paC (pCall 2 P__law_take (paC (pV 0) (paC (pC (.int 5)) paN))) (paC (pCall 2 P__law_some (paC (pV 0) (paC (p2 pAdd (pV 4) (pN pLst (paC (pC (.str "zz")) paN))) paN))) paN))) <|
pSeq (pSetF 12 (pAndE (p2 pNn (pV 9) (pC .none)) (pAndE (pOrE (p2 pNe (pV 10) (pC (.int 0))) (pCall 1 P__law_is_name (paC (pV 9) paN))) (pAndE (pOrE (p2 pNe (pV 10) (pC (.int 1))) (pCall 1 P__law_is_count (paC (pV 9) paN))) (pAndE (pOrE (p2 pNe (pV 10) (pC (.int 2))) (p2 pEq (pV 9) (pV 11))) (p2 pNe (pV 10) (pC (.int 4)))))))) <|
(pTry (subOf sbl) (pSeq (pSetF 13 (pCall 3 P__law_taken (paC (pV 6) (paC (pV 10) (paC (pV 11) paN))))) <|
pSeq (pSetF 14 (pIf (bAndP (b2P pEq (pV 10) (pC (.int 1))) (bVP (pV 12))) (pN pIntA (paC (pV 9) paN)) (pIf (b2P pEq (pV 10) (pC (.int 2))) (pC .none) (pV 9)))) <|
pSeq (pIfS (bOrP (bNotP (bVP (pV 12))) (bNotP (bVP (pCall 2 P__law_alike (paC (pV 13) (paC (pV 14) paN))))))
(pRet (pC (.bool false)))
(pNop)) <|
pAug 7 pIadd (pC (.int 1))) [⟨"BadText", some 15, hRunP "BadText" fun x =>
(pIfS (bOrP (bVP (pV 12)) (b2P pNe (pN pTup (paC (pLf x "line") (paC (pLf x "column") paN))) (pN pTup (paC (pV 3) (paC (pIf (b2P pLt (pV 7) (pN pLen (paC (pV 4) paN))) (p2 pIx (pV 5) (pV 7)) (p2 pAdd (pN pLen (paC (pV 2) paN)) (pC (.int 2)))) paN)))))
(pRet (pC (.bool false)))
(pNop))⟩]))) <|
(pTry (subOf sbl) (pSeq (pDrop (pMe [("Words", P_Words_close)] "close" 1 (pV 6) (paN))) <|
pRet (p2 pGe (pV 7) (pN pLen (paC (pV 4) paN)))) [⟨"BadText", some 15, hRunP "BadText" fun x =>
pRet (pAndE (p2 pLt (pV 7) (pN pLen (paC (pV 4) paN))) (p2 pEq (pN pTup (paC (pLf x "line") (paC (pLf x "column") paN))) (pN pTup (paC (pV 3) (paC (p2 pIx (pV 5) (pV 7)) paN)))))⟩])
@[irreducible] def P__law_are_words_right : PFn := runP 16 q__law_are_words_right
/-- law: 0=script 1=bag 2=turn -/
def q_law : Ps :=
pSeq (pFor (piR1 (paC (pC (.int 14)) paN)) (.name 2)
((pIfS (bNotP (bVP (pCall 1 P__law_are_words_right (paC (pV 1) paN))))
(pRet (pC (.bool false)))
(pNop)))) <|
pRet (pAndE (p2 pIsB (pCall 1 P_is_count (paC (pC (.str "")) paN)) (pC (.bool false))) (pAndE (p2 pIsB (pCall 1 P_is_count (paC (pC (.str "000000")) paN)) (pC (.bool false))) (p2 pIsB (pCall 1 P_is_count (paC (pC (.str "999999")) paN)) (pC (.bool true)))))
end
theorem sf_words_of {tl : List (Str × Str)} : SimF tl P_words_of N_words_of := by
  unfold P_words_of N_words_of
  exact sim_run ((sim_seq (sim_par (sim_aC (sim_N op_lst sim_aN) (sim_aC (sim_C rfl) sim_aN))) <|
(sim_seq (sim_for (sim_iV (sim_Split sim_V (sim_C rfl)))
(sim_seq (sim_app (sim_aC (sim_N op_tup (sim_aC sim_V (sim_aC sim_V sim_aN))) sim_aN)) <|
(sim_aug op_iadd (sim_2 op_add (sim_N op_len (sim_aC sim_V sim_aN)) (sim_C rfl))))) <|
(sim_ret (sim_N op_tuple (sim_aC sim_V sim_aN))))))
theorem sf_Words___init__ {tl : List (Str × Str)} : SimF tl P_Words___init__ N_Words___init__ := by
  unfold P_Words___init__ N_Words___init__
  exact sim_run ((sim_seq (sim_fset sim_V (sim_call (sf_words_of) (sim_aC sim_V sim_aN))) <|
(sim_fpar (sim_N op_tup (sim_aC (sim_2 op_add (sim_N op_len (sim_aC sim_V sim_aN)) (sim_C rfl)) (sim_aC sim_V (sim_aC (sim_C rfl) sim_aN)))))))
theorem sf_Words_peek {tl : List (Str × Str)} : SimF tl P_Words_peek N_Words_peek := by
  unfold P_Words_peek N_Words_peek
  exact sim_run ((sim_ret (sim_If (sim_b2 op_lt (sim_fld sim_V) (sim_N op_len (sim_aC (sim_fld sim_V) sim_aN))) (sim_2 op_ix (sim_2 op_ix (sim_fld sim_V) (sim_fld sim_V)) (sim_C rfl)) (sim_C rfl))))
theorem sf_Words_need {tl : List (Str × Str)} : SimF tl P_Words_need N_Words_need := by
  unfold P_Words_need N_Words_need
  exact sim_run ((sim_seq (sim_if (sim_bOr (sim_bNot (sim_bV sim_V)) (sim_b2 op_isN (sim_me (.cons (sf_Words_peek) .nil) sim_V sim_aN) (sim_C rfl)))
(sim_seq (sim_setF (sim_2 op_lt (sim_fld sim_V) (sim_N op_len (sim_aC (sim_fld sim_V) sim_aN)))) <|
(sim_raise (sim_aC (sim_fld sim_V) (sim_aC (sim_If (sim_bV sim_V) (sim_2 op_ix (sim_2 op_ix (sim_fld sim_V) (sim_fld sim_V)) (sim_C rfl)) (sim_fld sim_V)) sim_aN))))
sim_nop) <|
(sim_seq (sim_faug op_iadd sim_V (sim_C rfl)) <|
(sim_ret (sim_2 op_ix (sim_2 op_ix (sim_fld sim_V) (sim_2 op_sub (sim_fld sim_V) (sim_C rfl))) (sim_C rfl))))))
theorem sf_Words_close {tl : List (Str × Str)} : SimF tl P_Words_close N_Words_close := by
  unfold P_Words_close N_Words_close
  exact sim_run ((sim_if (sim_b2 op_nn (sim_me (.cons (sf_Words_peek) .nil) sim_V sim_aN) (sim_C rfl))
(sim_drop (sim_me (.cons (sf_Words_need) .nil) sim_V (sim_aC (sim_C rfl) sim_aN)))
sim_nop))
theorem sf_is_name {tl : List (Str × Str)} : SimF tl P_is_name N_is_name := by
  unfold P_is_name N_is_name
  exact sim_run ((sim_seq (sim_if (sim_bOr (sim_bNot (sim_bV (sim_1 op_isi sim_V))) (sim_bOr (sim_bNot (sim_bCh op_le op_le (sim_C rfl) (sim_N op_len (sim_aC sim_V sim_aN)) (sim_C rfl))) (sim_b2 op_in sim_V (sim_C rfl))))
(sim_ret (sim_C rfl))
sim_nop) <|
(sim_ret (sim_N op_all (sim_aC (sim_Lc (sim_iV sim_V) sim_bTrue (sim_2 op_in sim_V (sim_C rfl))) sim_aN)))))
theorem sf_Words_a_name {tl : List (Str × Str)} : SimF tl P_Words_a_name N_Words_a_name := by
  unfold P_Words_a_name N_Words_a_name
  exact sim_run ((sim_ret (sim_me (.cons (sf_Words_need) .nil) sim_V (sim_aC (sim_And (sim_2 op_nn (sim_me (.cons (sf_Words_peek) .nil) sim_V sim_aN) (sim_C rfl)) (sim_call (sf_is_name) (sim_aC (sim_me (.cons (sf_Words_peek) .nil) sim_V sim_aN) sim_aN))) sim_aN))))
theorem sf_is_count {tl : List (Str × Str)} : SimF tl P_is_count N_is_count := by
  unfold P_is_count N_is_count
  exact sim_run ((sim_seq (sim_if (sim_bOr (sim_bNot (sim_bCh op_le op_le (sim_C rfl) (sim_N op_len (sim_aC sim_V sim_aN)) (sim_C rfl))) (sim_bNot (sim_bV (sim_N op_all (sim_aC (sim_Lc (sim_iV sim_V) sim_bTrue (sim_2 op_in sim_V (sim_C rfl))) sim_aN)))))
(sim_ret (sim_C rfl))
sim_nop) <|
(sim_ret (sim_Or (sim_2 op_eq sim_V (sim_C rfl)) (sim_2 op_ne (sim_2 op_ix sim_V (sim_C rfl)) (sim_C rfl))))))
theorem sf_Words_number {tl : List (Str × Str)} : SimF tl P_Words_number N_Words_number := by
  unfold P_Words_number N_Words_number
  exact sim_run ((sim_ret (sim_N op_intA (sim_aC (sim_me (.cons (sf_Words_need) .nil) sim_V (sim_aC (sim_And (sim_2 op_nn (sim_me (.cons (sf_Words_peek) .nil) sim_V sim_aN) (sim_C rfl)) (sim_call (sf_is_count) (sim_aC (sim_me (.cons (sf_Words_peek) .nil) sim_V sim_aN) sim_aN))) sim_aN)) sim_aN))))
theorem sf_Words_mark {tl : List (Str × Str)} : SimF tl P_Words_mark N_Words_mark := by
  unfold P_Words_mark N_Words_mark
  exact sim_run ((sim_drop (sim_me (.cons (sf_Words_need) .nil) sim_V (sim_aC (sim_2 op_eq (sim_me (.cons (sf_Words_peek) .nil) sim_V sim_aN) sim_V) sim_aN))))
theorem sf__law_taken {tl : List (Str × Str)} : SimF tl P__law_taken N__law_taken := by
  unfold P__law_taken N__law_taken
  exact sim_run ((sim_seq (sim_if (sim_b2 op_eq sim_V (sim_C rfl))
(sim_ret (sim_me (.cons (sf_Words_a_name) .nil) sim_V sim_aN))
sim_nop) <|
(sim_seq (sim_if (sim_b2 op_eq sim_V (sim_C rfl))
(sim_ret (sim_me (.cons (sf_Words_number) .nil) sim_V sim_aN))
sim_nop) <|
(sim_ret (sim_If (sim_b2 op_eq sim_V (sim_C rfl)) (sim_me (.cons (sf_Words_mark) .nil) sim_V (sim_aC sim_V sim_aN)) (sim_me (.cons (sf_Words_need) .nil) sim_V (sim_aC (sim_2 op_eq sim_V (sim_C rfl)) sim_aN)))))))
theorem sf__law_is_name {tl : List (Str × Str)} : SimF tl P__law_is_name N__law_is_name := by
  unfold P__law_is_name N__law_is_name
  exact sim_run ((sim_seq (sim_setF (sim_N op_lst (sim_aC (sim_C rfl) (sim_aC (sim_C rfl) (sim_aC (sim_C rfl) (sim_aC (sim_C rfl) (sim_aC (sim_C rfl) (sim_aC (sim_C rfl) (sim_aC (sim_C rfl) (sim_aC (sim_C rfl) (sim_aC (sim_C rfl) (sim_aC (sim_C rfl) (sim_aC (sim_C rfl) sim_aN))))))))))))) <|
(sim_seq (sim_if (sim_bOr (sim_bNot (sim_bV (sim_1 op_isi sim_V))) (sim_bOr (sim_bNot (sim_bCh op_le op_le (sim_C rfl) (sim_N op_len (sim_aC sim_V sim_aN)) (sim_C rfl))) (sim_b2 op_in sim_V sim_V)))
(sim_ret (sim_C rfl))
sim_nop) <|
(sim_ret (sim_2 op_eq (sim_Lc (sim_iV sim_V) (sim_b2 op_ni sim_V (sim_C rfl)) (sim_C rfl)) (sim_N op_lst sim_aN))))))
theorem sf__law_is_count {tl : List (Str × Str)} : SimF tl P__law_is_count N__law_is_count := by
  unfold P__law_is_count N__law_is_count
  exact sim_run ((sim_seq (sim_if (sim_bOr (sim_bNot (sim_bCh op_le op_le (sim_C rfl) (sim_N op_len (sim_aC sim_V sim_aN)) (sim_C rfl))) (sim_b2 op_ne (sim_Lc (sim_iV sim_V) (sim_b2 op_ni sim_V (sim_C rfl)) (sim_C rfl)) (sim_N op_lst sim_aN)))
(sim_ret (sim_C rfl))
sim_nop) <|
(sim_ret (sim_Or (sim_2 op_eq sim_V (sim_C rfl)) (sim_2 op_ne (sim_2 op_ix sim_V (sim_C rfl)) (sim_C rfl))))))
theorem sf__law_are_words_right {tl : List (Str × Str)} : SimF tl P__law_are_words_right N__law_are_words_right := by
  unfold P__law_are_words_right N__law_are_words_right
  exact sim_run ((sim_seq (sim_setF (sim_N op_lst (sim_aC (sim_C rfl) (sim_aC (sim_C rfl) (sim_aC (sim_C rfl) (sim_aC (sim_C rfl) (sim_aC (sim_C rfl) (sim_aC (sim_C rfl) (sim_aC (sim_C rfl) (sim_aC (sim_C rfl) (sim_aC (sim_C rfl) (sim_aC (sim_C rfl) (sim_aC (sim_C rfl) (sim_aC (sim_C rfl) (sim_aC (sim_C rfl) (sim_aC (sim_C rfl) sim_aN)))))))))))))))) <|
(sim_seq (sim_par (sim_aC (sim_Join (sim_C rfl) (sim_Lc (sim_iR1 (sim_aC (sim_call (sf__law_take) (sim_aC sim_V (sim_aC (sim_C rfl) sim_aN))) sim_aN)) sim_bTrue (sim_call (sf__law_some) (sim_aC sim_V (sim_aC sim_V sim_aN))))) (sim_aC (sim_2 op_add (sim_C rfl) (sim_call (sf__law_take) (sim_aC sim_V (sim_aC (sim_C rfl) sim_aN)))) sim_aN))) <|
(sim_seq (sim_setF (sim_Split sim_V (sim_C rfl))) <|
(sim_seq (sim_setF (sim_Lc (sim_iR1 (sim_aC (sim_N op_len (sim_aC sim_V sim_aN)) sim_aN)) sim_bTrue (sim_2 op_add (sim_C rfl) (sim_N op_sum1 (sim_aC (sim_Lc (sim_iV (sim_Sl sim_V sim_oN (sim_oS sim_V))) sim_bTrue (sim_2 op_add (sim_N op_len (sim_aC sim_V sim_aN)) (sim_C rfl))) sim_aN))))) <|
(sim_seq (sim_if (sim_bOr (sim_bNot (sim_bV (sim_call (sf__law_alike) (sim_aC (sim_call (sf_words_of) (sim_aC sim_V sim_aN)) (sim_aC (sim_N op_tuple (sim_aC (sim_N op_lz (sim_aC sim_V (sim_aC sim_V sim_aN))) sim_aN)) sim_aN))))) (sim_b2 op_ne (sim_Lc (sim_iV sim_V) (sim_b2 op_ne (sim_call (sf_is_count) (sim_aC sim_V sim_aN)) (sim_call (sf__law_is_count) (sim_aC sim_V sim_aN))) (sim_C rfl)) (sim_N op_lst sim_aN)))
(sim_ret (sim_C rfl))
sim_nop) <|
(sim_cut cut_c1 (sim_newS (sf_Words___init__) (sim_aC sim_V (sim_aC sim_V sim_aN)) <|
(sim_seq (sim_par (sim_aC (sim_C rfl) sim_aN)) <|
(sim_seq (sim_for (sim_iR1 (sim_aC (sim_2 op_add (sim_N op_len (sim_aC sim_V sim_aN)) (sim_C rfl)) sim_aN))
(sim_seq (sim_setF (sim_If (sim_b2 op_lt sim_V (sim_N op_len (sim_aC sim_V sim_aN))) (sim_2 op_ix sim_V sim_V) (sim_C rfl))) <|
(sim_seq (sim_if (sim_b2 op_ne (sim_me (.cons (sf_Words_peek) .nil) sim_V sim_aN) sim_V)
(sim_ret (sim_C rfl))
sim_nop) <|
(sim_seq (sim_par (sim_aC (sim_call (sf__law_take) (sim_aC sim_V (sim_aC (sim_C rfl) sim_aN))) (sim_aC (sim_call (sf__law_some) (sim_aC sim_V (sim_aC (sim_2 op_add sim_V (sim_N op_lst (sim_aC (sim_C rfl) sim_aN))) sim_aN))) sim_aN))) <|
(sim_seq (sim_setF (sim_And (sim_2 op_nn sim_V (sim_C rfl)) (sim_And (sim_Or (sim_2 op_ne sim_V (sim_C rfl)) (sim_call (sf__law_is_name) (sim_aC sim_V sim_aN))) (sim_And (sim_Or (sim_2 op_ne sim_V (sim_C rfl)) (sim_call (sf__law_is_count) (sim_aC sim_V sim_aN))) (sim_And (sim_Or (sim_2 op_ne sim_V (sim_C rfl)) (sim_2 op_eq sim_V sim_V)) (sim_2 op_ne sim_V (sim_C rfl))))))) <|
(sim_try (sim_seq (sim_setF (sim_call (sf__law_taken) (sim_aC sim_V (sim_aC sim_V (sim_aC sim_V sim_aN))))) <|
(sim_seq (sim_setF (sim_If (sim_bAnd (sim_b2 op_eq sim_V (sim_C rfl)) (sim_bV sim_V)) (sim_N op_intA (sim_aC sim_V sim_aN)) (sim_If (sim_b2 op_eq sim_V (sim_C rfl)) (sim_C rfl) sim_V))) <|
(sim_seq (sim_if (sim_bOr (sim_bNot (sim_bV sim_V)) (sim_bNot (sim_bV (sim_call (sf__law_alike) (sim_aC sim_V (sim_aC sim_V sim_aN))))))
(sim_ret (sim_C rfl))
sim_nop) <|
(sim_aug op_iadd (sim_C rfl))))) (.cons (sim_hx fun x x' hx =>
(sim_if (sim_bOr (sim_bV sim_V) (sim_b2 op_ne (sim_N op_tup (sim_aC (sim_lf hx) (sim_aC (sim_lf hx) sim_aN))) (sim_N op_tup (sim_aC sim_V (sim_aC (sim_If (sim_b2 op_lt sim_V (sim_N op_len (sim_aC sim_V sim_aN))) (sim_2 op_ix sim_V sim_V) (sim_2 op_add (sim_N op_len (sim_aC sim_V sim_aN)) (sim_C rfl))) sim_aN)))))
(sim_ret (sim_C rfl))
sim_nop)) SimH.nil))))))) <|
(sim_try (sim_seq (sim_drop (sim_me (.cons (sf_Words_close) .nil) sim_V sim_aN)) <|
(sim_ret (sim_2 op_ge sim_V (sim_N op_len (sim_aC sim_V sim_aN))))) (.cons (sim_hx fun x x' hx =>
(sim_ret (sim_And (sim_2 op_lt sim_V (sim_N op_len (sim_aC sim_V sim_aN))) (sim_2 op_eq (sim_N op_tup (sim_aC (sim_lf hx) (sim_aC (sim_lf hx) sim_aN))) (sim_N op_tup (sim_aC sim_V (sim_aC (sim_2 op_ix sim_V sim_V) sim_aN))))))) SimH.nil))))))))))))
theorem law_pd_of {ns : List Int} (hP : ∀ s, Good [] s → ∃ e' s', q_law (startLaw 3 1) s = .go (.rt (.d (.bool true))) e' s') : ∀ w m, Begin tll ns w m → ∃ m', N_law [w] m = .ok (.d (.bool true)) m' := by
  intro w m hb
  unfold N_law b_law
  refine law_pd hb (q := q_law) ?_ (by decide) (by decide) hP
  have hl : ∀ p ∈ tll, p ∈ tll := fun _ h => h
  exact (sim_seq (sim_for (sim_iR1 (sim_aC (sim_C rfl) sim_aN))
(sim_if (sim_bNot (sim_bV (sim_call (sf__law_are_words_right) (sim_aC sim_V sim_aN))))
(sim_ret (sim_C rfl))
sim_nop)) <|
(sim_ret (sim_And (sim_2 op_isB (sim_call (sf_is_count) (sim_aC (sim_C rfl) sim_aN)) (sim_C rfl)) (sim_And (sim_2 op_isB (sim_call (sf_is_count) (sim_aC (sim_C rfl) sim_aN)) (sim_C rfl)) (sim_2 op_isB (sim_call (sf_is_count) (sim_aC (sim_C rfl) sim_aN)) (sim_C rfl))))))
end K02
set_option Elab.async false
set_option linter.all false
set_option maxRecDepth 100000
set_option maxHeartbeats 4000000
namespace PD
open PySem PySem.Spec PyProof.Rows L2 DL Hn K02
section
variable {s : Bg}
def resL : List PyData := [.str "by", .str "hears", .str "move", .str "no", .str "open", .str "sign", .str "sounds", .str "state", .str "to", .str "witness", .str "yes"]
def sg1 (c : Nat) : PyData := .str ⟨#[c]⟩
def allIn (x z : Str) : Bool := x.cps.toList.all fun c => decide (c ∈ z.cps.toList)
def nameB (x : Str) : Bool := decide (1 ≤ (x.length : Int)) && decide ((x.length : Int) ≤ 8) && !(resL.any fun z => PyData.eqv z (.str x)) && allIn x "abcdefghijklmnopqrstuvwxyz"
def notO (x : Str) : Bool := x == ("0" : Str) || !(x.cps.toList.head? == some 48)
def countB (x : Str) : Bool := decide (1 ≤ (x.length : Int)) && decide ((x.length : Int) ≤ 6) && allIn x "0123456789" && notO x
theorem it_str {x : Str} : itP (.d (.str x)) = some ⟨x.cps.toList.map sg1, true⟩ := rfl
theorem in_sg {c : Nat} {z : Str} {Q : PV → Prop} : wO (pIn (.d (sg1 c)) (.d (.str z))) Q ↔ Q (.d (.bool (decide (c ∈ z.cps.toList)))) := Iff.rfl
theorem ni_sg {c : Nat} {z : Str} {Q : PV → Prop} : wO (pNi (.d (sg1 c)) (.d (.str z))) Q ↔ Q (.d (.bool (!decide (c ∈ z.cps.toList)))) := Iff.rfl
theorem isi_str {x : Str} {Q : PV → Prop} : wO (pIsi ["str"] (.d (.str x))) Q ↔ Q (.d (.bool true)) := Iff.rfl
theorem in_seq {x : Str} {v : PV} {xs : List PyData} {Q : PV → Prop} (h : seqP v = some xs) (hf : xs.all flatD = true) : wO (pIn (.d (.str x)) v) Q ↔ Q (.d (.bool (xs.any fun z => PyData.eqv z (.str x)))) := by
  have e : pInB (.d (.str x)) v = some (xs.any fun z => PyData.eqv z (.str x)) := by
    unfold pInB
    split
    · cases h
    · rename_i y hh _
      cases hh
      simp only [h, hf, flatD]
      rfl
    · rename_i hne _; exact absurd rfl (hne _)
  unfold pIn
  rw [e]
  exact Iff.rfl
theorem bools_map {l : List Nat} {p : Nat → Bool} : boolsP (l.map fun c => .bool (p c)) = some (l.map p) := by
  induction l with
  | nil => rfl
  | cons c r ih =>
    rw [List.map_cons, List.map_cons]
    unfold boolsP
    rw [ih]
    rfl
theorem all_sg {x z : Str} : ((x.cps.toList.map fun c => decide (c ∈ z.cps.toList)).all id) = allIn x z := by
  unfold allIn
  rw [List.all_map]
  rfl
theorem len_cps {x : Str} : x.cps.toList.length = x.length := by simp [Str.length]
theorem lc_all {x z : Str} {e0 : PEnv} {i : Nat} {g : Pe PV} {R : List PyData → Bg → Prop} {X : PEx → Bg → Prop} (hx : x.length ≤ 100) (hg : ∀ c, wE (g (e0.set i (.d (sg1 c))) s) (fun w s2 => w = .d (.bool (decide (c ∈ z.cps.toList))) ∧ s2 = s) noX)
    (h : R (x.cps.toList.map fun c => .bool (decide (c ∈ z.cps.toList))) s) : wE (plcL (.name i) bTrueP g e0 (x.cps.toList.map sg1) [] s) R X := by
  refine w_lcT sg1 x.cps.toList _ (by rw [len_cps]; show _ ≤ 16777216; omega) (fun c _ => ?_) h
  simp only [pd_put1, wO_some]
  exact wE_mono (hg c) (fun w s2 ⟨h1, h2⟩ => ⟨by rw [h1]; rfl, h2⟩) fun _ _ h => h
theorem lc_none {x z : Str} {e0 : PEnv} {i : Nat} {c : Pe Bool} {R : List PyData → Bg → Prop} {X : PEx → Bg → Prop} (hx : x.length ≤ 100) (hg : ∀ k, wE (c (e0.set i (.d (sg1 k))) s) (fun b s2 => b = (!decide (k ∈ z.cps.toList)) ∧ s2 = s) noX)
    (h : R ((x.cps.toList.filter fun k => !decide (k ∈ z.cps.toList)).map fun _ => .int 1) s) : wE (plcL (.name i) c (pC (.int 1)) e0 (x.cps.toList.map sg1) [] s) R X := by
  refine w_lcM sg1 x.cps.toList (fun k => !decide (k ∈ z.cps.toList)) (fun _ => .int 1) (by rw [len_cps]; show _ ≤ 16777216; omega) (fun k _ => ?_) h
  simp only [pd_put1, wO_some]
  exact wE_mono (hg k) (fun b s2 ⟨h1, h2⟩ => ⟨h1, h2, fun _ => by subst h2; exact ⟨rfl, rfl⟩⟩) fun _ _ h => h
theorem name_eq {x : Str} (hx : x.length ≤ 100) : P_is_name [.d (.str x)] s = .ok (.d (.bool (nameB x))) s := by
  unfold P_is_name
  refine run_eq ?_
  show wS (q_is_name [.d (.str x), .no] s) _ _ _
  unfold q_is_name
  simp only [wW, lL, Co.toD, reduceIte, pP, slC, dkV, it_str, isi_str, o_lenS, o_le, show d_MOST_NAME = .int 8 from rfl]
  refine ⟨by show _ ≤ 16777216; omega, ?_⟩
  unfold nameB
  by_cases h1 : (1 : Int) ≤ x.length
  · by_cases h2 : (x.length : Int) ≤ 8
    · simp only [h1, h2, lL, Co.toD, reduceIte, o_le]
      rw [in_seq (xs := resL) rfl rfl]
      simp only [lL, Co.toD, reduceIte]
      cases hr : (resL.any fun z => PyData.eqv z (.str x)) with
      | true => simp only [lL, Co.toD, reduceIte]
      | false =>
        simp only [lL, Co.toD, reduceIte]
        refine lc_all (z := "abcdefghijklmnopqrstuvwxyz") hx (fun c => ?_) ?_
        · simp only [wW, lL, Co.toD, reduceIte, forgetP, List.foldl_cons, List.foldl_nil, show d_LETTERS = .str "abcdefghijklmnopqrstuvwxyz" from rfl, in_sg]
        · have e : pAll [PV.fr (Co.l (x.cps.toList.map fun c => .bool (decide (c ∈ ("abcdefghijklmnopqrstuvwxyz" : Str).cps.toList))))] = some (.d (.bool (allIn x "abcdefghijklmnopqrstuvwxyz"))) := by
            unfold pAll
            simp only [lstP, bools_map, Option.map_some, all_sg]
          rw [e]
          simp only [lL, Co.toD, reduceIte]
    · simp only [h1, h2, lL, Co.toD, reduceIte, o_le]
  · simp only [h1, lL, Co.toD, reduceIte]
theorem onez_sh {l : List PyData} (h : ∀ x ∈ l, ∃ i, x = .int i) : SeqAt.shaped (.list l) = true := shaped_of (sh_lst (k := 0) fun x hx => by obtain ⟨i, rfl⟩ := h x hx; exact sh_int) (by omega)
theorem onez_of {l : List Nat} : ∀ y ∈ l.map (fun _ => PyData.int 1), ∃ i, y = .int i := fun y hy => by obtain ⟨_, _, e⟩ := List.mem_map.mp hy; exact ⟨1, e.symm⟩
theorem none_all {x z : Str} : (x.cps.toList.filter fun k => !decide (k ∈ z.cps.toList)).isEmpty = allIn x z := by
  unfold allIn
  induction x.cps.toList with
  | nil => rfl
  | cons c r ih =>
    rw [List.filter_cons, List.all_cons]
    cases h : decide (c ∈ z.cps.toList) with
    | true => rw [← ih]; simp
    | false => simp
theorem lname_eq {x : Str} (hx : x.length ≤ 100) : P__law_is_name [.d (.str x)] s = .ok (.d (.bool (nameB x))) s := by
  unfold P__law_is_name
  refine run_eq ?_
  show wS (q__law_is_name [.d (.str x), .no, .no] s) _ _ _
  unfold q__law_is_name
  simp only [wW, lL, Co.toD, reduceIte, pP, slC, dkV, it_str, isi_str, o_lenS, o_le, o_lst]
  refine ⟨by decide, by show _ ≤ 16777216; omega, ?_⟩
  unfold nameB
  by_cases h1 : (1 : Int) ≤ x.length
  · by_cases h2 : (x.length : Int) ≤ 8
    · simp only [h1, h2, lL, Co.toD, reduceIte, o_le]
      rw [in_seq (xs := resL) rfl rfl]
      simp only [lL, Co.toD, reduceIte]
      cases hr : (resL.any fun z => PyData.eqv z (.str x)) with
      | true => simp only [lL, Co.toD, reduceIte]
      | false =>
        simp only [lL, Co.toD, reduceIte]
        refine lc_none (z := "abcdefghijklmnopqrstuvwxyz") hx (fun c => ?_) ?_
        · simp only [wW, lL, Co.toD, reduceIte, forgetP, List.foldl_cons, List.foldl_nil, ni_sg]
        · simp only [o_lst, lL, Co.toD, reduceIte]
          refine ⟨by decide, ?_⟩
          rw [o_eqNil rfl rfl (onez_sh onez_of), List.isEmpty_map, none_all]
          simp only [lL, Co.toD, reduceIte]
    · simp only [h1, h2, lL, Co.toD, reduceIte, o_le]
  · simp only [h1, lL, Co.toD, reduceIte]
theorem ix_head {x : Str} (hx : x.length ≤ 100) (h1 : (1 : Int) ≤ x.length) {Q : PV → Prop} : wO (pIx (.d (.str x)) (.d (.int 0))) Q ↔ ∃ c r, x.cps.toList = c :: r ∧ Q (.d (.str ⟨#[c]⟩)) := by
  have hl : x.cps.toList.length = x.length := len_cps
  unfold pIx
  simp only []
  rw [if_pos (by show _ ≤ 16777216; omega)]
  cases q : x.cps.toList with
  | nil => rw [q] at hl; simp at hl; omega
  | cons c r =>
    rw [at_0]
    exact ⟨fun h => ⟨c, r, rfl, h⟩, fun ⟨c', r', e, h⟩ => by cases e; exact h⟩
theorem sg_ne {c : Nat} : (!decide ((⟨#[c]⟩ : Str) = ("0" : Str))) = !(some c == some 48) := by
  by_cases h : c = 48
  · subst h; decide
  · have : ¬ (⟨#[c]⟩ : Str) = ("0" : Str) := fun e => h (by
      have e2 : (⟨#[c]⟩ : Str).cps.toList = ("0" : Str).cps.toList := by rw [e]
      have e3 : [c] = [48] := e2
      exact (List.cons.inj e3).1)
    simp [this, h]
theorem ending {x : Str} (hx : x.length ≤ 100) (h1 : (1 : Int) ≤ x.length) {e : PEnv} {v : PV} {Q : PV → Bg → Prop} {X : PEx → Bg → Prop} (he : e[0]? = some (.d (.str x))) (h : Q (.d (.bool (notO x))) s) : wE (pOrE (p2 pEq (pV 0) (pC (.str "0"))) (p2 pNe (p2 pIx (pV 0) (pC (.int 0))) (pC (.str "0"))) e s) Q X := by
  simp only [wW, lL, Co.toD, reduceIte, he, o_eqS]
  unfold notO at h
  by_cases hz : x = ("0" : Str)
  · have : (x == ("0" : Str)) = true := by simpa using hz
    rw [this] at h
    simp only [hz, lL, Co.toD, reduceIte]
    simpa using h
  · have : (x == ("0" : Str)) = false := by simpa using hz
    rw [this] at h
    simp only [hz, lL, Co.toD, reduceIte]
    rw [ix_head hx h1]
    have hl : x.cps.toList.length = x.length := len_cps
    cases q : x.cps.toList with
    | nil => rw [q] at hl; simp at hl; omega
    | cons c r =>
      refine ⟨c, r, rfl, ?_⟩
      rw [o_neS, sg_ne]
      rw [q] at h
      simpa using h
theorem count_eq {x : Str} (hx : x.length ≤ 100) : P_is_count [.d (.str x)] s = .ok (.d (.bool (countB x))) s := by
  unfold P_is_count
  refine run_eq ?_
  show wS (q_is_count [.d (.str x), .no] s) _ _ _
  unfold q_is_count
  simp only [w_seq, w_ifS, w_bOr, w_bNot, w_bV, w_bCh, w_Ch, w_C, w_N, w_aC, w_aN, w_V, lL, Co.toD, reduceIte, o_lenS, o_le, show d_MOST_DIGITS = .int 6 from rfl]
  refine ⟨by show _ ≤ 16777216; omega, ?_⟩
  unfold countB
  by_cases h1 : (1 : Int) ≤ x.length
  · by_cases h2 : (x.length : Int) ≤ 6
    · simp only [h1, h2, lL, Co.toD, reduceIte, o_le, w_Lc, w_iV, w_V, it_str]
      refine lc_all (z := "0123456789") hx (fun c => ?_) ?_
      · simp only [wW, lL, Co.toD, reduceIte, forgetP, List.foldl_cons, List.foldl_nil, show d_DIGITS = .str "0123456789" from rfl, in_sg]
      · have e : pAll [PV.fr (Co.l (x.cps.toList.map fun c => .bool (decide (c ∈ ("0123456789" : Str).cps.toList))))] = some (.d (.bool (allIn x "0123456789"))) := by
          unfold pAll
          simp only [lstP, bools_map, Option.map_some, all_sg]
        rw [e]
        simp only [lL, Co.toD, reduceIte]
        cases ha : allIn x "0123456789" with
        | false => simp only [lL, Co.toD, reduceIte, w_ret, w_C]
        | true =>
          simp only [lL, Co.toD, reduceIte, w_nop, w_ret]
          refine ending hx h1 (v := .bag) rfl ?_
          simp only [lL, Co.toD, reduceIte]
    · simp only [h1, h2, lL, Co.toD, reduceIte, o_le, w_ret, w_C]
  · simp only [h1, lL, Co.toD, reduceIte, w_ret, w_C]
theorem lcount_eq {x : Str} (hx : x.length ≤ 100) : P__law_is_count [.d (.str x)] s = .ok (.d (.bool (countB x))) s := by
  unfold P__law_is_count
  refine run_eq ?_
  show wS (q__law_is_count [.d (.str x), .no] s) _ _ _
  unfold q__law_is_count
  simp only [w_seq, w_ifS, w_bOr, w_bNot, w_bV, w_bCh, w_Ch, w_C, w_N, w_aC, w_aN, w_V, lL, Co.toD, reduceIte, o_lenS, o_le]
  refine ⟨by show _ ≤ 16777216; omega, ?_⟩
  unfold countB
  by_cases h1 : (1 : Int) ≤ x.length
  · by_cases h2 : (x.length : Int) ≤ 6
    · simp only [h1, h2, lL, Co.toD, reduceIte, o_le, w_b2, w_Lc, w_iV, w_V, it_str]
      refine lc_none (z := "0123456789") hx (fun c => ?_) ?_
      · simp only [wW, lL, Co.toD, reduceIte, forgetP, List.foldl_cons, List.foldl_nil, ni_sg]
      · simp only [w_N, w_aN, o_lst, lL, Co.toD, reduceIte]
        refine ⟨by decide, ?_⟩
        rw [o_neNil rfl rfl (onez_sh onez_of), List.isEmpty_map, none_all]
        simp only [lL, Co.toD, reduceIte]
        cases ha : allIn x "0123456789" with
        | false => simp only [lL, Co.toD, reduceIte, w_ret, w_C]
        | true =>
          simp only [lL, Co.toD, reduceIte, w_nop, w_ret]
          refine ending hx h1 (v := .bag) rfl ?_
          simp only [lL, Co.toD, reduceIte]
    · simp only [h1, h2, lL, Co.toD, reduceIte, o_le, w_ret, w_C]
  · simp only [h1, lL, Co.toD, reduceIte, w_ret, w_C]
end
end PD
set_option Elab.async false
set_option linter.all false
set_option maxRecDepth 100000
set_option maxHeartbeats 4000000
namespace PD
open PySem PySem.Spec PyProof.Rows L2 DL Hn K02
section
variable {s : Bg} {ws : List Str} {L n : Int} {a : Nat}
def wl (w : Str) : Int := (w.length : Int) + 1
def colE (ws : List Str) : Int := 1 + (ws.map wl).sum
def cols (ws : List Str) : List Int := (List.range ws.length).map fun k => colE (ws.take k)
def wc (ws : List Str) : List (Str × Int) := ws.zip (cols ws)
def eW2 (p : Str × Int) : PyData := .tuple [.str p.1, .int p.2]
theorem cols_len : (cols ws).length = ws.length := by simp [cols]
theorem cols_app {w : Str} : cols (ws ++ [w]) = cols ws ++ [colE ws] := by
  unfold cols
  rw [List.length_append, List.length_singleton, List.range_succ, List.map_append, List.map_singleton]
  congr 1
  · refine List.map_congr_left fun k hk => ?_
    rw [List.take_append_of_le_length (Nat.le_of_lt (List.mem_range.mp hk))]
  · rw [List.take_append_of_le_length (Nat.le_refl _), List.take_length]
theorem wc_app {w : Str} : wc (ws ++ [w]) = wc ws ++ [(w, colE ws)] := by
  unfold wc
  rw [cols_app, List.zip_append cols_len.symm]
  rfl
theorem colE_app {w : Str} : colE (ws ++ [w]) = colE ws + wl w := by simp [colE]; omega
def Sh (ws : List Str) : Prop := ws.length ≤ 100 ∧ ∀ w ∈ ws, w.length ≤ 100
theorem words_eq {t : Str} (ht : t.length ≤ 100000) (hs : Txt.split t " " = ws) (h : Sh ws) : P_words_of [.d (.str t)] s = .ok (.d (.tuple ((wc ws).map eW2))) s := by
  unfold P_words_of
  refine run_eq ?_
  show wS (q_words_of [.d (.str t), .no, .no, .no] s) _ _ _
  unfold q_words_of
  simp only [w_seq, w_par, w_N, w_aC, w_aN, w_C, w_for, w_iV, w_split, w_V, lL, Co.toD, reduceIte, o_lst]
  refine ⟨by decide, ⟨by decide, by show _ ≤ 16777216; omega⟩, ?_⟩
  rw [hs]
  refine w_forT .str ws (fun d e s1 => ∃ sl, e = [.d (.str t), .own (.l ((wc d).map eW2)), .d (.int (colE d)), sl] ∧ s1 = s) ⟨_, rfl, rfl⟩ (fun d w r e s1 hw ⟨sl, e1, e2⟩ => ?_) (fun e s1 ⟨sl, e1, e2⟩ => ?_)
  · subst e1 e2
    have hw1 : w ∈ ws := by rw [hw]; simp
    have hw2 := h.2 w hw1
    have hd : d.length ≤ 100 := by have := h.1; rw [hw] at this; simp at this; omega
    simp only [pd_put1, lL, Co.toD, reduceIte, w_seq, w_app, w_N, w_aC, w_aN, w_V, o_tuple, o_tup]
    refine ⟨by decide, by rw [List.length_map]; unfold wc; rw [List.length_zip]; show _ < 16777216; omega, ?_⟩
    simp only [w_aug, w_2, w_N, w_aC, w_aN, w_V, w_C, lL, Co.toD, reduceIte, o_lenS, o_add, o_iadd]
    refine ⟨by show _ ≤ 16777216; omega, .d (.str w), ?_⟩
    rw [wc_app, colE_app, List.map_append]
    rfl
  · subst e1 e2
    simp only [w_ret, w_N, w_aC, w_aN, w_V, lL, Co.toD, reduceIte, o_tuple]
def wob (ws : List Str) (L n : Int) (a : Nat) : Ob := ⟨"Words", [("its_words", .d (.tuple ((wc ws).map eW2))), ("its_end", .d (.int L)), ("its_number", .d (.int n)), ("its_at", .d (.int a))]⟩
theorem f_w : fldV ["Words"] "its_words" [wob ws L n a] (.ob 0) = some (.d (.tuple ((wc ws).map eW2))) := rfl
theorem f_e : fldV ["Words"] "its_end" [wob ws L n a] (.ob 0) = some (.d (.int L)) := rfl
theorem f_n : fldV ["Words"] "its_number" [wob ws L n a] (.ob 0) = some (.d (.int n)) := rfl
theorem f_a : fldV ["Words"] "its_at" [wob ws L n a] (.ob 0) = some (.d (.int a)) := rfl
theorem d_a : fldD ["Words"] "its_at" [wob ws L n a] 0 = some (("Words" : Str), PyData.int a) := rfl
theorem s_a : obW ["Words"] "its_at" (.d (.int ((a : Int) + 1))) [wob ws L n a] 0 = some [wob ws L n (a + 1)] := rfl
theorem c_peek : clsV "peek" [wob ws L n a] (.ob 0) = some ("Words" : Str) := rfl
theorem c_need : clsV "need" [wob ws L n a] (.ob 0) = some ("Words" : Str) := rfl
theorem c_name : clsV "a_name" [wob ws L n a] (.ob 0) = some ("Words" : Str) := rfl
theorem c_num : clsV "number" [wob ws L n a] (.ob 0) = some ("Words" : Str) := rfl
theorem c_mark : clsV "mark" [wob ws L n a] (.ob 0) = some ("Words" : Str) := rfl
theorem c_close : clsV "close" [wob ws L n a] (.ob 0) = some ("Words" : Str) := rfl
theorem lk {P : PFn} : List.lookup ("Words" : Str) [(("Words" : Str), P)] = some P := rfl
theorem obk0 {k : Nat} : obk (.ob k) = some k := rfl
theorem slVo {k i : Nat} : slV i (some (.ob k)) = some (.ob k) := rfl
theorem dOf0 {x : PyData} : dOf (.d x) = some x := rfl
theorem len_w {Q : PV → Prop} : wO (pLen [.d (.tuple ((wc ws).map eW2))]) Q ↔ Q (.d (.int ws.length)) := by
  have e : ((wc ws).map eW2).length = ws.length := by rw [List.length_map]; unfold wc; rw [List.length_zip, cols_len, Nat.min_self]
  rw [o_lenT, e]
theorem wc_get {w : Str} (h : ws[a]? = some w) : ∃ c, (cols ws)[a]? = some c ∧ ((wc ws).map eW2)[a]? = some (.tuple [.str w, .int c]) := by
  have hl := get_of h
  have hc : a < (cols ws).length := by rw [cols_len]; exact hl
  refine ⟨(cols ws)[a], List.getElem?_eq_getElem hc, ?_⟩
  rw [List.getElem?_map]
  unfold wc
  rw [List.getElem?_zip_eq_some (z := (w, (cols ws)[a])) |>.mpr ⟨h, List.getElem?_eq_getElem hc⟩]
  rfl
def pk (ws : List Str) (a : Nat) : PyData := match ws[a]? with
  | some w => .str w
  | none => .none
theorem peek_eq (hg : s.obs = [wob ws L n a]) : P_Words_peek [.ob 0] s = .ok (.d (pk ws a)) s := by
  unfold P_Words_peek
  refine run_eq ?_
  show wS (q_Words_peek [.ob 0] s) _ _ _
  unfold q_Words_peek
  simp only [wW, lL, Co.toD, reduceIte, w_fld, hg, f_w, f_a, slVo, len_w, o_lt]
  unfold pk
  by_cases hl : a < ws.length
  · obtain ⟨c, h1, h2⟩ := wc_get (List.getElem?_eq_getElem hl)
    have : (a : Int) < (ws.length : Int) := by omega
    simp only [this, lL, Co.toD, reduceIte, w_fld, hg, f_w, f_a, slVo, List.getElem?_eq_getElem hl]
    rw [o_ix (xs := (wc ws).map eW2) rfl, at_natq h2]
    simp only [lL, Co.toD, reduceIte, pP, slC, dkV]
  · have : ¬ (a : Int) < (ws.length : Int) := by omega
    simp only [this, lL, Co.toD, reduceIte, List.getElem?_eq_none (Nat.le_of_not_lt hl)]
def badC (ws : List Str) (L : Int) (a : Nat) : Int := ((cols ws)[a]?).getD L
def badX (n c : Int) : PEx := ⟨"BadText", [("column", .int c), ("line", .int n)]⟩
theorem pk_isN {Q : PV → Prop} : wO (pIsN (.d (pk ws a)) (.d .none)) Q ↔ Q (.d (.bool (ws[a]?).isNone)) := by
  unfold pk
  cases ws[a]? <;> exact Iff.rfl
theorem pk_nn {Q : PV → Prop} : wO (pNn (.d (pk ws a)) (.d .none)) Q ↔ Q (.d (.bool (ws[a]?).isSome)) := by
  unfold pk
  cases ws[a]? <;> exact Iff.rfl
theorem need_w {b : Bool} {Q : PV → Bg → Prop} {X : PEx → Bg → Prop} (hg : s.obs = [wob ws L n a])
    (h1 : ∀ w, b = true → ws[a]? = some w → Q (.d (.str w)) { s with obs := [wob ws L n (a + 1)] }) (h2 : (b = false ∨ ws[a]? = none) → X (badX n (badC ws L a)) s) : wE (P_Words_need [.ob 0, .d (.bool b)] s) Q X := by
  unfold P_Words_need
  refine w_run ?_
  show wS (q_Words_need [.ob 0, .d (.bool b), .no] s) _ _ _
  unfold q_Words_need
  simp only [w_seq, w_ifS, w_bOr, w_bNot, w_bV, w_b2, w_V, w_C, w_me, w_aN, lL, Co.toD, reduceIte, slVo, hg, c_peek, lk, wE_eq (peek_eq hg), pk_isN]
  have raise : ((b = false ∨ ws[a]? = none)) → wS (pSetF 2 (p2 pLt (pFld ["Words"] "its_at" (pV 0)) (pN pLen (paC (pFld ["Words"] "its_words" (pV 0)) paN))) [.ob 0, .d (.bool b), .no] s)
      (fun e s => wS (pRaise "BadText" 2 [("line", 0), ("column", 1)] (paC (pFld ["Words"] "its_number" (pV 0)) (paC (pIf (bVP (pV 2)) (p2 pIx (p2 pIx (pFld ["Words"] "its_words" (pV 0)) (pFld ["Words"] "its_at" (pV 0))) (pC (.int 1))) (pFld ["Words"] "its_end" (pV 0))) paN)) e s) (fun _ _ => False) (fun _ _ _ => False) (fun x _ s => X x s)) (fun _ _ _ => False) (fun x _ s => X x s) := by
    intro hb
    have hx := h2 hb
    simp only [wW, lL, Co.toD, reduceIte, w_fld, hg, f_w, f_a, f_n, f_e, slVo, len_w, o_lt]
    unfold badC at hx
    by_cases hl : a < ws.length
    · obtain ⟨c, g1, g2⟩ := wc_get (List.getElem?_eq_getElem hl)
      have : (a : Int) < (ws.length : Int) := by omega
      rw [g1] at hx
      simp only [this, lL, Co.toD, reduceIte, w_fld, hg, f_w, f_a, slVo]
      rw [o_ix (xs := (wc ws).map eW2) rfl, at_natq g2]
      simp only [lL, Co.toD, reduceIte, pP, slC, dkV]
      exact hx
    · have : ¬ (a : Int) < (ws.length : Int) := by omega
      have hc : (cols ws)[a]? = none := List.getElem?_eq_none (by rw [cols_len]; exact Nat.le_of_not_lt hl)
      rw [hc] at hx
      simp only [this, lL, Co.toD, reduceIte, w_fld, hg, f_e, slVo]
      exact hx
  have fin : ∀ {K : PEnv → Bg → Prop} {QS : PFl → PEnv → Bg → Prop}, (b = false ∨ ws[a]? = none) → wS (pSetF 2 (p2 pLt (pFld ["Words"] "its_at" (pV 0)) (pN pLen (paC (pFld ["Words"] "its_words" (pV 0)) paN))) [.ob 0, .d (.bool b), .no] s)
      (fun e s => wS (pRaise "BadText" 2 [("line", 0), ("column", 1)] (paC (pFld ["Words"] "its_number" (pV 0)) (paC (pIf (bVP (pV 2)) (p2 pIx (p2 pIx (pFld ["Words"] "its_words" (pV 0)) (pFld ["Words"] "its_at" (pV 0))) (pC (.int 1))) (pFld ["Words"] "its_end" (pV 0))) paN)) e s) K QS (fun x _ s => X x s)) QS (fun x _ s => X x s) := fun hb => wS_mono (raise hb) (fun e s h => wS_mono h (fun _ _ h => h.elim) (fun _ _ _ h => h.elim) fun _ _ _ h => h) (fun _ _ _ h => h.elim) fun _ _ _ h => h
  cases b with
  | false =>
    simp only [lL, Co.toD, reduceIte]
    exact fin (.inl rfl)
  | true =>
    simp only [lL, Co.toD, reduceIte, c_peek, lk, wE_eq (peek_eq hg), pk_isN]
    cases hw : ws[a]? with
    | none =>
      simp only [Option.isNone_none, lL, Co.toD, reduceIte]
      exact fin (.inr hw)
    | some w =>
      have hq := h1 w rfl hw
      obtain ⟨c, g1, g2⟩ := wc_get hw
      simp only [Option.isNone_some, lL, Co.toD, reduceIte, w_nop, w_faug, w_V, w_C, slVo, obk0, hg, d_a, o_iadd, dOf0, s_a]
      simp only [w_ret, w_2, w_fld, w_V, w_C, lL, Co.toD, reduceIte, slVo, f_w, f_a, o_sub]
      rw [o_ix (xs := (wc ws).map eW2) rfl, show ((a + 1 : Nat) : Int) - 1 = (a : Int) by omega, at_natq g2]
      simp only [lL, Co.toD, reduceIte, pP, slC, dkV]
      exact hq
end
end PD
set_option Elab.async false
set_option linter.all false
set_option maxRecDepth 100000
set_option maxHeartbeats 4000000
namespace PD
open PySem PySem.Spec PyProof.Rows L2 DL Hn K02
section
variable {s : Bg} {ws : List Str} {L n : Int} {a : Nat} {Q : PV → Bg → Prop} {X : PEx → Bg → Prop}
/-- what a step tells, where all goes well -/
def nxt (s : Bg) (ws : List Str) (L n : Int) (a : Nat) : Bg := { s with obs := [wob ws L n (a + 1)] }
theorem name_w (h : Sh ws) (hg : s.obs = [wob ws L n a]) (h1 : ∀ w, ws[a]? = some w → nameB w = true → Q (.d (.str w)) (nxt s ws L n a)) (h2 : (∀ w, ws[a]? = some w → nameB w = false) → X (badX n (badC ws L a)) s) : wE (P_Words_a_name [.ob 0] s) Q X := by
  unfold P_Words_a_name
  refine w_run ?_
  show wS (q_Words_a_name [.ob 0] s) _ _ _
  unfold q_Words_a_name
  simp only [w_ret, w_me, w_V, w_C, w_aC, w_aN, w_And, w_2, w_call, lL, Co.toD, reduceIte, slVo, hg, c_peek, c_need, lk, wE_eq (peek_eq hg), pk_nn]
  cases hw : ws[a]? with
  | none =>
    simp only [Option.isSome_none, lL, Co.toD, reduceIte]
    exact need_w hg (fun w hb _ => by cases hb) fun _ => h2 fun w e => by rw [hw] at e; cases e
  | some w =>
    have hwl : w.length ≤ 100 := h.2 w (List.mem_of_getElem? hw)
    have ep : pk ws a = .str w := by unfold pk; rw [hw]
    simp only [Option.isSome_some, lL, Co.toD, reduceIte, slVo, hg, c_peek, lk, wE_eq (peek_eq hg), ep, wE_eq (name_eq hwl)]
    exact need_w hg (fun w' hb e => by rw [hw] at e; cases e; exact h1 w hw hb) fun q => h2 fun w' e => by
      rw [hw] at e; cases e
      rcases q with q | q
      · exact q
      · rw [hw] at q; cases q
def cntV (w : Str) : PyData := match PySem.intText? w with
  | some k => .int k
  | none => .none
theorem num_w (h : Sh ws) (hi : ∀ w ∈ ws, countB w = true → (PySem.intText? w).isSome = true) (hg : s.obs = [wob ws L n a]) (h1 : ∀ w, ws[a]? = some w → countB w = true → Q (.d (cntV w)) (nxt s ws L n a)) (h2 : (∀ w, ws[a]? = some w → countB w = false) → X (badX n (badC ws L a)) s) : wE (P_Words_number [.ob 0] s) Q X := by
  unfold P_Words_number
  refine w_run ?_
  show wS (q_Words_number [.ob 0] s) _ _ _
  unfold q_Words_number
  simp only [w_ret, w_N, w_me, w_V, w_C, w_aC, w_aN, w_And, w_2, w_call, lL, Co.toD, reduceIte, slVo, hg, c_peek, c_need, lk, wE_eq (peek_eq hg), pk_nn]
  cases hw : ws[a]? with
  | none =>
    simp only [Option.isSome_none, lL, Co.toD, reduceIte]
    exact need_w hg (fun w hb _ => by cases hb) fun _ => h2 fun w e => by rw [hw] at e; cases e
  | some w =>
    have hm := List.mem_of_getElem? hw
    have hwl : w.length ≤ 100 := h.2 w hm
    have ep : pk ws a = .str w := by unfold pk; rw [hw]
    simp only [Option.isSome_some, lL, Co.toD, reduceIte, slVo, hg, c_peek, lk, wE_eq (peek_eq hg), ep, wE_eq (count_eq hwl)]
    refine need_w hg (fun w' hb e => ?_) fun q => h2 fun w' e => ?_
    · rw [hw] at e; cases e
      have hq := h1 w hw hb
      have e2 : pIntA [.d (.str w)] = (PySem.intText? w).map fun k => .d (.int k) := if_pos (show w.length ≤ 640 by omega)
      rw [e2]
      have := hi w hm hb
      unfold cntV at hq
      cases q : PySem.intText? w with
      | none => rw [q] at this; cases this
      | some k =>
        rw [q] at hq
        exact hq
    · rw [hw] at e; cases e
      rcases q with q | q
      · exact q
      · rw [hw] at q; cases q
theorem pk_eqS {m : Str} {Q : PV → Prop} : wO (pEq (.d (pk ws a)) (.d (.str m))) Q ↔ Q (.d (.bool (decide (ws[a]? = some m)))) := by
  unfold pk
  cases ws[a]? with
  | none => exact Iff.rfl
  | some w =>
    show wO (pEq (.d (.str w)) (.d (.str m))) Q ↔ _
    rw [o_eqS]
    simp
theorem mark_w {m : Str} (hg : s.obs = [wob ws L n a]) (h1 : ws[a]? = some m → Q (.d .none) (nxt s ws L n a)) (h2 : ws[a]? ≠ some m → X (badX n (badC ws L a)) s) : wE (P_Words_mark [.ob 0, .d (.str m)] s) Q X := by
  unfold P_Words_mark
  refine w_run ?_
  show wS (q_Words_mark [.ob 0, .d (.str m)] s) _ _ _
  unfold q_Words_mark
  simp only [w_drop, w_me, w_V, w_aC, w_aN, w_2, lL, Co.toD, reduceIte, slVo, hg, c_peek, c_need, lk, wE_eq (peek_eq hg), pk_eqS]
  refine need_w hg (fun w hb e => h1 (by simpa using hb)) fun q => h2 fun e => ?_
  rcases q with q | q
  · simp [e] at q
  · rw [q] at e; cases e
theorem close_w (hg : s.obs = [wob ws L n a]) (h1 : ws[a]? = none → Q (.d .none) s) (h2 : ws[a]? ≠ none → X (badX n (badC ws L a)) s) : wE (P_Words_close [.ob 0] s) Q X := by
  unfold P_Words_close
  refine w_run ?_
  show wS (q_Words_close [.ob 0] s) _ _ _
  unfold q_Words_close
  simp only [w_ifS, w_b2, w_drop, w_nop, w_me, w_V, w_C, w_aC, w_aN, lL, Co.toD, reduceIte, slVo, hg, c_peek, c_need, lk, wE_eq (peek_eq hg), pk_nn]
  cases hw : ws[a]? with
  | none =>
    simp only [Option.isSome_none, lL, Co.toD, reduceIte]
    exact h1 hw
  | some w =>
    simp only [Option.isSome_some, lL, Co.toD, reduceIte, slVo, hg, c_need, lk]
    exact need_w hg (fun w hb _ => by cases hb) fun _ => h2 (by rw [hw]; simp)
/-- whether a step goes well -/
def goodW (ws : List Str) (a way : Nat) (m : Str) : Bool := match ws[a]? with
  | none => false
  | some w => match way with
    | 0 => nameB w
    | 1 => countB w
    | 2 => decide (w = m)
    | 3 => true
    | _ => false
def toldV (ws : List Str) (a way : Nat) : PyData := match ws[a]? with
  | none => .none
  | some w => match way with
    | 1 => cntV w
    | 2 => .none
    | _ => .str w
theorem taken_w {way : Nat} {m : Str} (h : Sh ws) (hway : way < 5) (hi : ∀ w ∈ ws, countB w = true → (PySem.intText? w).isSome = true) (hg : s.obs = [wob ws L n a]) (h1 : goodW ws a way m = true → Q (.d (toldV ws a way)) (nxt s ws L n a)) (h2 : goodW ws a way m = false → X (badX n (badC ws L a)) s) :
    wE (P__law_taken [.ob 0, .d (.int (way : Int)), .d (.str m)] s) Q X := by
  unfold P__law_taken
  refine w_run ?_
  show wS (q__law_taken [.ob 0, .d (.int (way : Int)), .d (.str m)] s) _ _ _
  unfold q__law_taken
  match way, hway with
  | 0, _ =>
    simp only [w_seq, w_ifS, w_b2, w_V, w_C, w_ret, w_me, w_aN, lL, Co.toD, reduceIte, slVo, o_eqi, hg, c_name, lk, show ((0 : Nat) : Int) = 0 from rfl]
    refine name_w h hg (fun w e hb => ?_) fun hb => ?_
    · have := h1 (by unfold goodW; rw [e]; exact hb)
      unfold toldV at this
      rw [e] at this
      exact this
    · exact h2 (by unfold goodW; cases e : ws[a]? with
        | none => rfl
        | some w => exact hb w e)
  | 1, _ =>
    simp only [w_seq, w_ifS, w_b2, w_V, w_C, w_ret, w_me, w_aN, w_nop, lL, Co.toD, reduceIte, slVo, o_eqi, hg, c_num, lk, show ((1 : Nat) : Int) = 1 from rfl, show ¬ ((1 : Int) = 0) by decide]
    refine num_w h hi hg (fun w e hb => ?_) fun hb => ?_
    · have := h1 (by unfold goodW; rw [e]; exact hb)
      unfold toldV at this
      rw [e] at this
      simp only [pd_retV1, wO_some]
      exact this
    · exact h2 (by unfold goodW; cases e : ws[a]? with
        | none => rfl
        | some w => exact hb w e)
  | 2, _ =>
    simp only [w_seq, w_ifS, w_b2, w_V, w_C, w_ret, w_me, w_aN, w_aC, w_nop, w_If, lL, Co.toD, reduceIte, slVo, o_eqi, hg, c_mark, lk, show ((2 : Nat) : Int) = 2 from rfl, show ¬ ((2 : Int) = 0) by decide, show ¬ ((2 : Int) = 1) by decide]
    refine mark_w hg (fun e => ?_) fun e => ?_
    · have := h1 (by unfold goodW; rw [e]; exact decide_eq_true rfl)
      unfold toldV at this
      rw [e] at this
      exact this
    · exact h2 (by unfold goodW; cases q : ws[a]? with
        | none => rfl
        | some w => exact decide_eq_false fun z => e (by rw [q, z]))
  | 3, _ =>
    simp only [w_seq, w_ifS, w_b2, w_V, w_C, w_ret, w_me, w_aN, w_aC, w_nop, w_If, w_2, lL, Co.toD, reduceIte, slVo, o_eqi, hg, c_need, lk, show ((3 : Nat) : Int) = 3 from rfl, show ¬ ((3 : Int) = 0) by decide, show ¬ ((3 : Int) = 1) by decide, show ¬ ((3 : Int) = 2) by decide]
    refine need_w hg (fun w _ e => ?_) fun q => ?_
    · have := h1 (by unfold goodW; rw [e]; rfl)
      unfold toldV at this
      rw [e] at this
      exact this
    · exact h2 (by
        rcases q with q | q
        · cases q
        · unfold goodW; rw [q])
  | 4, _ =>
    simp only [w_seq, w_ifS, w_b2, w_V, w_C, w_ret, w_me, w_aN, w_aC, w_nop, w_If, w_2, lL, Co.toD, reduceIte, slVo, o_eqi, hg, c_need, lk, show ((4 : Nat) : Int) = 4 from rfl, show ¬ ((4 : Int) = 0) by decide, show ¬ ((4 : Int) = 1) by decide, show ¬ ((4 : Int) = 2) by decide, show ¬ ((4 : Int) = 3) by decide]
    refine need_w hg (fun w hb _ => by cases hb) fun q => ?_
    exact h2 (by unfold goodW; cases ws[a]? <;> rfl)
end
end PD
set_option Elab.async false
set_option linter.all false
set_option maxRecDepth 100000
set_option maxHeartbeats 4000000
namespace PD
open PySem PySem.Spec PyProof.Rows L2 DL Hn Hs K02
def soL : List Str := ["ann", "yes", "0", "012", "12", "123456", "1234567", "", "-1", "Ann", "a", "hillsides", "by", "witness"]
theorem so1 : ∀ w ∈ soL, countB w = true → (PySem.intText? w).isSome = true := by decide +kernel
theorem so2 : ∀ w ∈ soL, w.length ≤ 9 := by decide +kernel
theorem so3 : ∀ w ∈ soL, (32 : Nat) ∉ TL.tl w := by decide +kernel
theorem joinL_len (y : List Nat) : ∀ (ps : List (List Nat)), (TL.joinL y ps).length ≤ (ps.map List.length).sum + ps.length * y.length
  | [] => by simp [TL.joinL]
  | [p] => by simp [TL.joinL]
  | p :: q :: r => by
    have := joinL_len y (q :: r)
    simp only [TL.joinL, List.length_append, List.map_cons, List.sum_cons, List.length_cons, Nat.add_mul, Nat.one_mul] at this ⊢
    omega
theorem join_le {y : Str} {ps : List Str} : (Txt.join y ps).length ≤ (ps.map (·.length)).sum + ps.length * y.length := by
  rw [TL.len_tl, TL.join_eq, TL.tl_join]
  have := joinL_len (TL.tl y) (ps.map TL.tl)
  rw [List.length_map, ← TL.len_tl, List.map_map] at this
  have e : (ps.map (List.length ∘ TL.tl)) = ps.map (·.length) := List.map_congr_left fun p _ => (TL.len_tl p).symm
  rw [e] at this
  exact this
theorem sum_le9 : ∀ {ps : List Str}, (∀ w ∈ ps, w ∈ soL) → (ps.map (·.length)).sum ≤ 9 * ps.length
  | [], _ => by simp
  | p :: r, h => by
    have h1 := so2 p (h p List.mem_cons_self)
    have h2 := sum_le9 (ps := r) fun w hw => h w (List.mem_cons_of_mem _ hw)
    simp only [List.map_cons, List.sum_cons, List.length_cons]
    omega
/-- the text's words -/
def wsOf (r : List Str) : List Str := if r = [] then [""] else r
theorem split_eq {r : List Str} (h : ∀ w ∈ r, w ∈ soL) : Txt.split (Txt.join " " r) " " = wsOf r := by
  unfold wsOf
  by_cases hr : r = []
  · subst hr
    rw [if_pos rfl]
    decide +kernel
  · rw [if_neg hr]
    exact TL.split_join (y := " ") (s := 32) (S := []) rfl (by decide +kernel) hr fun p hp => so3 p (h p hp)
theorem ws_mem {r : List Str} (h : ∀ w ∈ r, w ∈ soL) : ∀ w ∈ wsOf r, w ∈ soL := fun w hw => by
  unfold wsOf at hw
  split at hw
  · rw [List.mem_singleton.mp hw]; decide +kernel
  · exact h w hw
theorem ws_len {r : List Str} (h : r.length ≤ 8) : 1 ≤ (wsOf r).length ∧ (wsOf r).length ≤ 8 := by
  unfold wsOf
  split
  · simp
  · rename_i hr
    cases r with
    | nil => exact absurd rfl hr
    | cons _ _ => simp at h ⊢; omega
theorem ws_sh {r : List Str} (h : ∀ w ∈ r, w ∈ soL) (hl : r.length ≤ 8) : Sh (wsOf r) := ⟨by have := (ws_len hl).2; omega, fun w hw => by have := so2 w (ws_mem h w hw); omega⟩
theorem zip_eq {ws : List Str} : ((ws.map PyData.str).zip ((cols ws).map PyData.int)).map (fun p => PyData.tuple [p.1, p.2]) = (wc ws).map eW2 := by
  unfold wc
  rw [List.zip_map, List.map_map]
  rfl
section
variable {s : Bg} {Q : PV → Bg → Prop} {X : PEx → Bg → Prop}
theorem init_w {t : Str} {ws : List Str} {n : Int} (ht : t.length ≤ 100000) (hs : Txt.split t " " = ws) (h : Sh ws) (h1 : Q (.d .none) { s with obs := [wob ws ((t.length : Int) + 2) n 0] }) : wE (P_Words___init__ [.ob 0, .d (.str t), .d (.int n)] { s with obs := [⟨"Words", []⟩] }) Q X := by
  unfold P_Words___init__
  refine w_run ?_
  show wS (q_Words___init__ [.ob 0, .d (.str t), .d (.int n)] _) _ _ _
  unfold q_Words___init__
  simp only [w_seq, w_fset, w_call, w_aC, w_aN, w_V, lL, Co.toD, reduceIte, wE_eq (words_eq ht hs h), slVo, obk0]
  have e1 : obW ["Words"] "its_words" (.d (.tuple ((wc ws).map eW2))) [⟨"Words", []⟩] 0 = some [⟨"Words", [("its_words", .d (.tuple ((wc ws).map eW2)))]⟩] := rfl
  rw [e1]
  simp only [w_fpar, w_N, w_2, w_aC, w_aN, w_V, w_C, lL, Co.toD, reduceIte, o_lenS, o_add, o_tup, tOf, slOb]
  refine ⟨by show _ ≤ 16777216; omega, by decide, ?_⟩
  exact h1
/-- the shape of what is compared -/
theorem psz_w2 : ∀ (l : List (Str × Int)), pszs (l.map eW2) = 3 * l.length
  | [] => by simp [pszs]
  | p :: r => by
    rw [List.map_cons, pszs, psz_w2 r]
    simp only [eW2, psz, pszs, List.length_cons]
    omega
theorem pl_wc {ws : List Str} (hl : ws.length ≤ 8) : plD (.tuple ((wc ws).map eW2)) = true ∧ psz (.tuple ((wc ws).map eW2)) ≤ LIM := by
  refine ⟨?_, ?_⟩
  · show plDs ((wc ws).map eW2) = true
    rw [plDs_iff]
    intro d hd
    obtain ⟨p, _, rfl⟩ := List.mem_map.mp hd
    rfl
  · rw [psz_tup, psz_w2]
    unfold wc
    rw [List.length_zip, cols_len, Nat.min_self]
    show _ ≤ 16777216
    omega
theorem pl_told {ws : List Str} {a way : Nat} : plD (toldV ws a way) = true ∧ psz (toldV ws a way) ≤ LIM := by
  have key : ∀ d, (∃ x, d = PyData.str x) ∨ (∃ i, d = PyData.int i) ∨ d = PyData.none → plD d = true ∧ psz d ≤ LIM := by
    rintro d (⟨x, rfl⟩ | ⟨i, rfl⟩ | rfl)
    · exact ⟨rfl, by simp only [psz]; decide⟩
    · exact ⟨rfl, by simp only [psz]; decide⟩
    · exact ⟨rfl, by simp only [psz]; decide⟩
  refine key _ ?_
  unfold toldV
  cases ws[a]? with
  | none => exact .inr (.inr rfl)
  | some w =>
    match way with
    | 0 => exact .inl ⟨w, rfl⟩
    | 1 =>
      show (∃ x, cntV w = PyData.str x) ∨ (∃ i, cntV w = PyData.int i) ∨ cntV w = PyData.none
      unfold cntV
      cases PySem.intText? w with
      | none => exact .inr (.inr rfl)
      | some k => exact .inr (.inl ⟨k, rfl⟩)
    | 2 => exact .inr (.inr rfl)
    | k + 3 => exact .inl ⟨w, rfl⟩
theorem pk_ne {ws : List Str} {a : Nat} {Q : PV → Prop} : wO (pNe (.d (pk ws a)) (.d (pk ws a))) Q ↔ Q (.d (.bool false)) := by
  unfold pk
  cases ws[a]? with
  | none => exact Iff.rfl
  | some w =>
    show wO (pNe (.d (.str w)) (.d (.str w))) Q ↔ _
    rw [o_neS]
    simp
theorem word_w {ws : List Str} {a : Nat} {e : PEnv} (h4 : e[4]? = some (.d (.list (ws.map .str)))) (h7 : e[7]? = some (.d (.int (a : Int)))) (h : Q (.d (pk ws a)) s) : wE (pIf (b2P pLt (pV 7) (pN pLen (paC (pV 4) paN))) (p2 pIx (pV 4) (pV 7)) (pC .none) e s) Q X := by
  simp only [w_If, w_b2, w_V, w_N, w_aC, w_aN, h4, h7, lL, Co.toD, reduceIte]
  rw [o_len (xs := ws.map .str) rfl, List.length_map]
  simp only [o_lt, lL, Co.toD, reduceIte]
  unfold pk at h
  by_cases hl : a < ws.length
  · have h1 : (a : Int) < (ws.length : Int) := by omega
    rw [List.getElem?_eq_getElem hl] at h
    simp only [h1, lL, Co.toD, reduceIte, w_2, w_V, h4, h7]
    rw [o_ix (xs := ws.map .str) rfl, at_natq (x := .str ws[a]) (by rw [List.getElem?_map, List.getElem?_eq_getElem hl]; rfl)]
    exact h
  · have h1 : ¬ (a : Int) < (ws.length : Int) := by omega
    rw [List.getElem?_eq_none (Nat.le_of_not_lt hl)] at h
    simp only [h1, lL, Co.toD, reduceIte, w_C]
    exact h
theorem good_w {ws : List Str} {a way : Nat} {m : Str} {e : PEnv} (hs : Sh ws) (hway : way < 5) (h9 : e[9]? = some (.d (pk ws a))) (h10 : e[10]? = some (.d (.int (way : Int)))) (h11 : e[11]? = some (.d (.str m))) (h : Q (.d (.bool (goodW ws a way m))) s) :
    wE (pAndE (p2 pNn (pV 9) (pC .none)) (pAndE (pOrE (p2 pNe (pV 10) (pC (.int 0))) (pCall 1 P__law_is_name (paC (pV 9) paN))) (pAndE (pOrE (p2 pNe (pV 10) (pC (.int 1))) (pCall 1 P__law_is_count (paC (pV 9) paN))) (pAndE (pOrE (p2 pNe (pV 10) (pC (.int 2))) (p2 pEq (pV 9) (pV 11))) (p2 pNe (pV 10) (pC (.int 4)))))) e s) Q X := by
  simp only [w_And, w_2, w_V, w_C, h9, h10, h11, lL, Co.toD, reduceIte, pk_nn]
  unfold goodW at h
  cases hw : ws[a]? with
  | none =>
    rw [hw] at h
    simp only [Option.isSome_none, lL, Co.toD, reduceIte]
    exact h
  | some w =>
    rw [hw] at h
    have hwl := hs.2 w (List.mem_of_getElem? hw)
    have ep : pk ws a = .str w := by unfold pk; rw [hw]
    simp only [Option.isSome_some, lL, Co.toD, reduceIte]
    match way, hway with
    | 0, _ =>
      have h : Q (.d (.bool (nameB w))) s := h
      simp only [w_And, w_Or, w_2, w_V, w_C, w_call, w_aC, w_aN, h9, h10, h11, lL, Co.toD, reduceIte, o_nei, ep, wE_eq (lname_eq hwl), show ((0 : Nat) : Int) = 0 from rfl]
      cases hb : nameB w with
      | false => rw [hb] at h; simpa using h
      | true =>
        rw [hb] at h
        simp only [lL, Co.toD, reduceIte, show ¬ ((0 : Int) = 1) by decide, show ¬ ((0 : Int) = 2) by decide, show ¬ ((0 : Int) = 4) by decide]
        exact h
    | 1, _ =>
      have h : Q (.d (.bool (countB w))) s := h
      simp only [w_And, w_Or, w_2, w_V, w_C, w_call, w_aC, w_aN, h9, h10, h11, lL, Co.toD, reduceIte, o_nei, ep, wE_eq (lcount_eq hwl), show ((1 : Nat) : Int) = 1 from rfl, show ¬ ((1 : Int) = 0) by decide]
      cases hb : countB w with
      | false => rw [hb] at h; simpa using h
      | true =>
        rw [hb] at h
        simp only [lL, Co.toD, reduceIte, show ¬ ((1 : Int) = 2) by decide, show ¬ ((1 : Int) = 4) by decide]
        exact h
    | 2, _ =>
      have h : Q (.d (.bool (decide (w = m)))) s := h
      simp only [w_And, w_Or, w_2, w_V, w_C, w_call, w_aC, w_aN, h9, h10, h11, lL, Co.toD, reduceIte, o_nei, ep, o_eqS, show ((2 : Nat) : Int) = 2 from rfl, show ¬ ((2 : Int) = 0) by decide, show ¬ ((2 : Int) = 1) by decide]
      by_cases hb : w = m
      · rw [decide_eq_true hb] at h
        simp only [hb, lL, Co.toD, reduceIte, show ¬ ((2 : Int) = 4) by decide]
        exact h
      · rw [decide_eq_false hb] at h
        simp only [hb, lL, Co.toD, reduceIte]
        exact h
    | 3, _ =>
      have h : Q (.d (.bool true)) s := h
      simp only [w_And, w_Or, w_2, w_V, w_C, w_call, w_aC, w_aN, h9, h10, h11, lL, Co.toD, reduceIte, o_nei, ep, show ((3 : Nat) : Int) = 3 from rfl, show ¬ ((3 : Int) = 0) by decide, show ¬ ((3 : Int) = 1) by decide, show ¬ ((3 : Int) = 2) by decide, show ¬ ((3 : Int) = 4) by decide]
      exact h
    | 4, _ =>
      have h : Q (.d (.bool false)) s := h
      simp only [w_And, w_Or, w_2, w_V, w_C, w_call, w_aC, w_aN, h9, h10, h11, lL, Co.toD, reduceIte, o_nei, ep, show ((4 : Nat) : Int) = 4 from rfl, show ¬ ((4 : Int) = 0) by decide, show ¬ ((4 : Int) = 1) by decide, show ¬ ((4 : Int) = 2) by decide]
      exact h
theorem due_w {ws : List Str} {a way : Nat} {m : Str} {e : PEnv} (hs : Sh ws) (hi : ∀ w ∈ ws, countB w = true → (PySem.intText? w).isSome = true) (hway : way < 5) (hg : goodW ws a way m = true) (h9 : e[9]? = some (.d (pk ws a))) (h10 : e[10]? = some (.d (.int (way : Int)))) (h12 : e[12]? = some (.d (.bool true))) (h : Q (.d (toldV ws a way)) s) :
    wE (pIf (bAndP (b2P pEq (pV 10) (pC (.int 1))) (bVP (pV 12))) (pN pIntA (paC (pV 9) paN)) (pIf (b2P pEq (pV 10) (pC (.int 2))) (pC .none) (pV 9)) e s) Q X := by
  unfold goodW at hg
  unfold toldV at h
  cases hw : ws[a]? with
  | none => rw [hw] at hg; cases hg
  | some w =>
    rw [hw] at hg h
    have hwm := List.mem_of_getElem? hw
    have hwl := hs.2 w hwm
    have ep : pk ws a = .str w := by unfold pk; rw [hw]
    rw [ep] at h9
    match way, hway with
    | 0, _ =>
      simp only [w_If, w_bAnd, w_b2, w_bV, w_V, w_C, w_N, w_aC, w_aN, h9, h10, h12, lL, Co.toD, reduceIte, o_eqi, show ((0 : Nat) : Int) = 0 from rfl, show ¬ ((0 : Int) = 1) by decide, show ¬ ((0 : Int) = 2) by decide]
      exact h
    | 1, _ =>
      have hg : countB w = true := hg
      have h : Q (.d (cntV w)) s := h
      simp only [w_If, w_bAnd, w_b2, w_bV, w_V, w_C, w_N, w_aC, w_aN, h9, h10, h12, lL, Co.toD, reduceIte, o_eqi, show ((1 : Nat) : Int) = 1 from rfl]
      have e2 : pIntA [.d (.str w)] = (PySem.intText? w).map fun k => .d (.int k) := if_pos (show w.length ≤ 640 by omega)
      rw [e2]
      have := hi w hwm hg
      unfold cntV at h
      cases q : PySem.intText? w with
      | none => rw [q] at this; cases this
      | some k => rw [q] at h; exact h
    | 2, _ =>
      simp only [w_If, w_bAnd, w_b2, w_bV, w_V, w_C, w_N, w_aC, w_aN, h9, h10, h12, lL, Co.toD, reduceIte, o_eqi, show ((2 : Nat) : Int) = 2 from rfl, show ¬ ((2 : Int) = 1) by decide]
      exact h
    | 3, _ =>
      simp only [w_If, w_bAnd, w_b2, w_bV, w_V, w_C, w_N, w_aC, w_aN, h9, h10, h12, lL, Co.toD, reduceIte, o_eqi, show ((3 : Nat) : Int) = 3 from rfl, show ¬ ((3 : Int) = 1) by decide, show ¬ ((3 : Int) = 2) by decide]
      exact h
    | 4, _ => cases hg
theorem frzAo {k : Nat} {vs : List PV} : frzA (.ob k :: vs) = (frzA vs).map fun r => .ob k :: r := rfl
theorem sub_bad : subOf K02.sbl "BadText" "BadText" = some true := rfl
theorem badX_cls {n c : Int} : (badX n c).cls = ("BadText" : Str) := rfl
theorem lf_line {n c : Int} : List.lookup ("line" : Str) (badX n c).fs = some (PyData.int n) := rfl
theorem lf_col {n c : Int} : List.lookup ("column" : Str) (badX n c).fs = some (PyData.int c) := rfl
theorem two_sh {n c : Int} : plD (.tuple [.int n, .int c]) = true ∧ SeqAt.shaped (.tuple [.int n, .int c]) = true := ⟨rfl, shaped_of (sh_tup (k := 0) fun d hd => by
  rcases List.mem_cons.mp hd with rfl | hd
  · exact sh_int
  · rw [List.mem_singleton.mp hd]; exact sh_int) (by omega)⟩
theorem col_get {ws : List Str} {a : Nat} {L : Int} (h : a < ws.length) : ((cols ws).map PyData.int)[a]? = some (.int (badC ws L a)) := by
  have hc : a < (cols ws).length := by rw [cols_len]; exact h
  unfold badC
  rw [List.getElem?_map, List.getElem?_eq_getElem hc]
  rfl
theorem badC_none {ws : List Str} {a : Nat} {L : Int} (h : ¬ a < ws.length) : badC ws L a = L := by
  unfold badC
  rw [List.getElem?_eq_none (by rw [cols_len]; omega)]
  rfl
theorem col_w {ws : List Str} {t : Str} {a : Nat} {L : Int} {e : PEnv} (ht : t.length ≤ 100000) (hL : (t.length : Int) + 2 = L) (h2 : e[2]? = some (.d (.str t))) (h4 : e[4]? = some (.d (.list (ws.map .str)))) (h5 : e[5]? = some (.d (.list ((cols ws).map .int)))) (h7 : e[7]? = some (.d (.int (a : Int)))) (h : Q (.d (.int (badC ws L a))) s) :
    wE (pIf (b2P pLt (pV 7) (pN pLen (paC (pV 4) paN))) (p2 pIx (pV 5) (pV 7)) (p2 pAdd (pN pLen (paC (pV 2) paN)) (pC (.int 2))) e s) Q X := by
  simp only [w_If, w_b2, w_V, w_N, w_aC, w_aN, h4, h7, lL, Co.toD, reduceIte]
  rw [o_len (xs := ws.map .str) rfl, List.length_map]
  simp only [o_lt, lL, Co.toD, reduceIte]
  by_cases hl : a < ws.length
  · have h1 : (a : Int) < (ws.length : Int) := by omega
    simp only [h1, lL, Co.toD, reduceIte, w_2, w_V, h5, h7]
    rw [o_ix (xs := (cols ws).map .int) rfl, at_natq (col_get (L := L) hl)]
    exact h
  · have h1 : ¬ (a : Int) < (ws.length : Int) := by omega
    rw [badC_none hl, ← hL] at h
    simp only [h1, lL, Co.toD, reduceIte, w_2, w_N, w_aC, w_aN, w_V, w_C, h2, o_lenS, o_add]
    exact ⟨by show _ ≤ 16777216; omega, h⟩
theorem right_ok (hg : Good [] s) (hq : ∀ s', Good [] s' → Q (.d (.bool true)) s') : wE (P__law_are_words_right [.bag] s) Q X := by
  unfold P__law_are_words_right
  refine w_run ?_
  show wS (q__law_are_words_right [.bag, .no, .no, .no, .no, .no, .no, .no, .no, .no, .no, .no, .no, .no, .no, .no] s) _ _ _
  unfold q__law_are_words_right
  rw [w_seq]
  simp only [w_setF, w_N, w_aC, w_aN, w_C, lL, Co.toD, reduceIte, o_lst]
  refine ⟨by decide, ?_⟩
  have eso : [PyData.str "ann", .str "yes", .str "0", .str "012", .str "12", .str "123456", .str "1234567", .str "", .str "-1", .str "Ann", .str "a", .str "hillsides", .str "by", .str "witness"] = soL.map .str := rfl
  rw [eso, w_seq]
  simp only [w_par, w_aC, w_aN, w_Join, w_C, w_Lc, w_iR1, w_call, w_V, lL, Co.toD, reduceIte, forgetP, List.foldl_cons, List.foldl_nil]
  refine take_okN hg (by omega) (by omega) fun v s1 hv hg1 => ?_
  simp only [lL, Co.toD, reduceIte, wO_ran1, r62 (n := v) (by omega), Int.toNat_natCast]
  rw [intsP'_eq]
  refine w_lcE eN .str (fun _ w => w ∈ soL) (Good []) (List.range v) (by rw [List.length_range]; show _ ≤ 16777216; omega) hg1 (fun b hb s2 hg2 => ?_) fun r s2 hr hg2 => ?_
  · simp only [eN, wW, lL, Co.toD, reduceIte]
    refine some_ok (xs := soL.map .str) hg2 rfl (by decide) (by decide) fun j y s3 hy hg3 => ?_
    rw [List.getElem?_map] at hy
    obtain ⟨w, hw, rfl⟩ := Option.map_eq_some_iff.mp hy
    exact ⟨w, List.mem_of_getElem? hw, rfl, hg3⟩
  have hrm : ∀ w ∈ r, w ∈ soL := fun w hw => by obtain ⟨_, _, h⟩ := hr.mem w hw; exact h
  have hrl : r.length ≤ 8 := by rw [hr.length, List.length_range]; omega
  have hsum := sum_le9 hrm
  have hj := join_le (y := " ") (ps := r)
  have hone : ((" " : Str)).length = 1 := rfl
  rw [hone] at hj
  rw [o_join (ss := r) rfl, hone]
  refine ⟨by omega, ?_⟩
  have hsp := split_eq hrm
  have hmem := ws_mem hrm
  have hwl := ws_len hrl
  have hsh := ws_sh hrm hrl
  have htl : (Txt.join " " r).length ≤ 100000 := by omega
  generalize Txt.join " " r = t at *
  generalize wsOf r = ws at *
  clear hr hrm hrl hsum hj r
  simp only [w_2, w_C, w_call, w_aC, w_aN, w_V, lL, Co.toD, reduceIte]
  refine take_okN hg2 (by omega) (by omega) fun n0 s3 hn0 hg3 => ?_
  have e1 : (1 : Int) + (n0 : Int) = ((1 + n0 : Nat) : Int) := by omega
  simp only [o_add, lL, Co.toD, reduceIte, e1]
  rw [w_seq]
  simp only [w_setF, w_split, w_V, w_C, lL, Co.toD, reduceIte]
  refine ⟨⟨by decide, by show _ ≤ 16777216; omega⟩, ?_⟩
  rw [hsp, w_seq]
  simp only [w_setF, w_Lc, w_iR1, w_N, w_aC, w_aN, w_V, lL, Co.toD, reduceIte, forgetP, List.foldl_cons, List.foldl_nil]
  rw [o_len (xs := ws.map .str) rfl, List.length_map]
  simp only [lL, Co.toD, reduceIte, wO_ran1, r62 (n := ws.length) (by omega), Int.toNat_natCast]
  rw [intsP'_eq]
  refine w_lcT eN (List.range ws.length) (fun k => .int (colE (ws.take k))) (by rw [List.length_range]; show _ ≤ 16777216; omega) (fun k hk => ?_) ?_
  · simp only [eN, lL, Co.toD, reduceIte, w_2, w_N, w_aC, w_aN, w_C, w_Lc, w_iV, w_Sl, w_oN, w_oS, w_V, forgetP, List.foldl_cons, List.foldl_nil]
    have ec : pCut (.d (.list (ws.map .str))) none (some (k : Int)) = some (.fr (.l ((ws.map .str).take k))) := by
      show some (PV.fr (.l (cutL (ws.map PyData.str) none (some (k : Int))))) = _
      rw [cut_to]
    rw [ec, ← List.map_take]
    simp only [lL, Co.toD, reduceIte]
    refine w_lcT .str (ws.take k) (fun w => .int (wl w)) (by rw [List.length_take]; show _ ≤ 16777216; omega) (fun w hw => ?_) ?_
    · have := so2 w (hmem w (List.mem_of_mem_take hw))
      simp only [lL, Co.toD, reduceIte, w_2, w_N, w_aC, w_aN, w_V, w_C, o_lenS, o_add, forgetP, List.foldl_cons, List.foldl_nil]
      exact ⟨by show _ ≤ 16777216; omega, rfl⟩
    · rw [o_sum (l := (ws.take k).map wl) (by show some _ = _; rw [List.map_map]; rfl)]
      simp only [o_add, lL, Co.toD, reduceIte]
      rfl
  have ecol : (List.range ws.length).map (fun k => PyData.int (colE (ws.take k))) = (cols ws).map .int := by unfold cols; rw [List.map_map]; rfl
  rw [ecol, w_seq]
  simp only [w_ifS, w_bOr, w_bNot, w_bV, w_b2, w_call, w_N, w_aC, w_aN, w_V, lL, Co.toD, reduceIte, wE_eq (words_eq htl hsp hsh)]
  rw [o_lz1 (xs := ws.map .str) (ys := (cols ws).map .int) rfl rfl, zip_eq]
  simp only [lL, Co.toD, reduceIte, pP, slC, dkV]
  have hpl := pl_wc hwl.2
  rw [wE_eq (alike_self hpl.1 hpl.2)]
  simp only [lL, Co.toD, reduceIte, w_Lc, w_iV, w_V, forgetP, List.foldl_cons, List.foldl_nil]
  refine w_lcM .str ws (fun _ => false) (fun _ => .int 1) (by show _ ≤ 16777216; omega) (fun w hw => ?_) ?_
  · have := so2 w (hmem w hw)
    simp only [lL, Co.toD, reduceIte, w_b2, w_call, w_aC, w_aN, w_V, wE_eq (count_eq (show w.length ≤ 100 by omega)), wE_eq (lcount_eq (show w.length ≤ 100 by omega)), o_neb, forgetP, List.foldl_cons, List.foldl_nil]
    simp
  rw [show ws.filter (fun _ => false) = [] by simp, List.map_nil]
  simp only [w_N, w_aN, lL, Co.toD, reduceIte, o_lst]
  refine ⟨by decide, ?_⟩
  rw [o_neNil (xs := []) rfl rfl (by decide)]
  simp only [lL, Co.toD, reduceIte, w_nop, List.isEmpty_nil]
  rw [w_newS]
  simp only [w_aC, w_aN, w_V, lL, Co.toD, reduceIte]
  have ho : s3.obs.length = 0 := by rw [hg3.2]; rfl
  have en : newB "Words" s3 = { s3 with obs := [⟨"Words", []⟩] } := by unfold newB; rw [hg3.2]; rfl
  rw [ho, en]
  refine init_w htl hsp hsh ⟨trivial, ?_⟩
  have hcut : ∀ {R : Bg → Prop} {z : List Ob} {s' : Bg}, Good z s' → (∀ s2, Good [] s2 → R s2) → wO (cutB 0 s') R := fun {R z s'} hgz hR => by
    have e : cutB 0 s' = some { s' with obs := [] } := by unfold cutB; simp
    rw [e]
    exact hR _ ⟨hgz.1, rfl⟩
  have hi : ∀ w ∈ ws, countB w = true → (PySem.intText? w).isSome = true := fun w hw => so1 w (hmem w hw)
  have hg4 : Good [wob ws ((t.length : Int) + 2) ((1 + n0 : Nat) : Int) 0] { s3 with obs := [wob ws ((t.length : Int) + 2) ((1 + n0 : Nat) : Int) 0] } := ⟨hg3.1, rfl⟩
  generalize ({ s3 with obs := [wob ws ((t.length : Int) + 2) ((1 + n0 : Nat) : Int) 0] } : Bg) = s4 at *
  generalize hLL : (t.length : Int) + 2 = LL at *
  generalize hnn : ((1 + n0 : Nat) : Int) = nn at *
  rw [w_seq]
  simp only [w_par, w_aC, w_aN, w_C, lL, Co.toD, reduceIte]
  rw [w_seq]
  simp only [w_for, w_iR1, w_2, w_N, w_aC, w_aN, w_V, w_C, lL, Co.toD, reduceIte]
  rw [o_len (xs := ws.map .str) rfl, List.length_map]
  have e3 : (ws.length : Int) + 3 = ((ws.length + 3 : Nat) : Int) := by omega
  simp only [o_add, lL, Co.toD, reduceIte, e3, wO_ran1, r62 (n := ws.length + 3) (by omega), Int.toNat_natCast]
  rw [intsP'_eq]
  refine w_forT eN (List.range (ws.length + 3)) (fun d e s1 => ∃ (a : Nat) (b8 b9 b10 b11 b12 b13 b14 b15 : Sl), e = [.bag, .d (.list (soL.map .str)), .d (.str t), .d (.int nn), .d (.list (ws.map .str)), .d (.list ((cols ws).map .int)), .ob 0, .d (.int (a : Int)), b8, b9, b10, b11, b12, b13, b14, b15] ∧ Good [wob ws LL nn a] s1 ∧ a ≤ ws.length)
    ⟨0, _, _, _, _, _, _, _, _, rfl, hg4, Nat.zero_le _⟩ (fun d k r e s5 hl ⟨a, b8, b9, b10, b11, b12, b13, b14, b15, e1', hg5, ha⟩ => ?_) (fun e s5 ⟨a, b8, b9, b10, b11, b12, b13, b14, b15, e1', hg5, ha⟩ => ?_)
  · subst e1'
    simp only [eN, pd_put1, lL, Co.toD, reduceIte]
    rw [w_seq, w_setF]
    refine word_w rfl rfl ?_
    simp only [lL, Co.toD, reduceIte]
    rw [w_seq]
    simp only [w_ifS, w_b2, w_me, w_aN, w_V, lL, Co.toD, reduceIte, slVo, hg5.2, c_peek, lk, wE_eq (peek_eq hg5.2), pk_ne, w_nop]
    rw [w_seq]
    simp only [w_par, w_aC, w_aN, w_call, w_V, w_C, lL, Co.toD, reduceIte]
    refine take_okN hg5 (by omega) (by omega) fun way s6 hway hg6 => ?_
    simp only [w_2, w_N, w_aC, w_aN, w_V, w_C, lL, Co.toD, reduceIte, o_lst]
    refine ⟨by decide, ?_⟩
    rw [o_cat (xs := ws.map .str) (ys := [.str "zz"]) rfl rfl]
    refine ⟨by rw [List.length_map]; show _ ≤ 16777216; simp; omega, ?_⟩
    simp only [lL, Co.toD, reduceIte]
    have ezz : ws.map PyData.str ++ [.str "zz"] = (ws ++ [("zz" : Str)]).map .str := by rw [List.map_append]; rfl
    rw [ezz]
    refine some_ok (xs := (ws ++ [("zz" : Str)]).map .str) hg6 rfl (by simp) (by simp; omega) fun j y s7 hy hg7 => ?_
    rw [List.getElem?_map] at hy
    obtain ⟨m, hm, rfl⟩ := Option.map_eq_some_iff.mp hy
    have hway' : way < 5 := by omega
    simp only [lL, Co.toD, reduceIte]
    rw [w_seq, w_setF]
    refine good_w hsh hway' rfl rfl rfl ?_
    simp only [lL, Co.toD, reduceIte]
    rw [w_try, w_seq, w_setF]
    simp only [w_call, w_aC, w_aN, w_V, lL, Co.toD, reduceIte, slVo, frzAo]
    refine taken_w hsh hway' hi hg7.2 (fun hgd => ?_) fun hgd => ?_
    · rw [hgd]
      simp only [lL, Co.toD, reduceIte]
      rw [w_seq, w_setF]
      refine due_w hsh hi hway' hgd rfl rfl rfl ?_
      have hpt := pl_told (ws := ws) (a := a) (way := way)
      simp only [w_seq, w_ifS, w_bOr, w_bNot, w_bV, w_call, w_aC, w_aN, w_V, lL, Co.toD, reduceIte, wE_eq (alike_self hpt.1 hpt.2), w_nop, w_aug, w_C, o_iadd]
      have hlt : a < ws.length := by
        unfold goodW at hgd
        cases q : ws[a]? with
        | none => rw [q] at hgd; cases hgd
        | some w => exact get_of q
      exact ⟨a + 1, _, _, _, _, _, _, _, _, rfl, ⟨hg7.1, rfl⟩, hlt⟩
    · rw [w_catch sub_bad, w_hRun badX_cls, hgd]
      simp only [unsetP, lL, Co.toD, reduceIte, w_ifS, w_bOr, w_bV, w_b2, w_N, w_aC, w_aN, w_V, w_lf lf_line rfl, w_lf lf_col rfl, o_tup]
      refine ⟨by decide, col_w htl hLL rfl rfl rfl rfl ?_⟩
      simp only [lL, Co.toD, reduceIte]
      refine ⟨by decide, ?_⟩
      rw [o_ne_self (x := .tuple [.int nn, .int (badC ws LL a)]) rfl rfl two_sh.1 two_sh.2]
      simp only [lL, Co.toD, reduceIte, w_nop]
      exact ⟨a, _, _, _, _, _, _, _, _, rfl, hg7, ha⟩
  · subst e1'
    rw [w_try, w_seq]
    simp only [w_drop, w_me, w_aN, w_V, lL, Co.toD, reduceIte, slVo, hg5.2, c_close, lk]
    refine close_w hg5.2 (fun hn => ?_) fun hn => ?_
    · simp only [w_ret, w_2, w_N, w_aC, w_aN, w_V, lL, Co.toD, reduceIte]
      rw [o_len (xs := ws.map .str) rfl, List.length_map]
      have hge : (ws.length : Int) ≤ (a : Int) := by
        have := List.getElem?_eq_none_iff.mp hn
        omega
      simp only [o_ge, hge, lL, Co.toD, reduceIte]
      exact hcut hg5 fun s2 hs2 => ⟨rfl, hq s2 hs2⟩
    · have hlt : a < ws.length := by
        cases q : ws[a]? with
        | none => exact absurd q hn
        | some w => exact get_of q
      have hlt' : (a : Int) < (ws.length : Int) := by omega
      rw [w_catch sub_bad, w_hRun badX_cls]
      simp only [unsetP, lL, Co.toD, reduceIte, w_ret, w_And, w_2, w_N, w_aC, w_aN, w_V]
      rw [o_len (xs := ws.map .str) rfl, List.length_map]
      simp only [o_lt, hlt', lL, Co.toD, reduceIte, w_2, w_N, w_aC, w_aN, w_V, w_lf lf_line rfl, w_lf lf_col rfl, o_tup]
      refine ⟨by decide, ?_⟩
      rw [o_ix (xs := (cols ws).map .int) rfl, at_natq (col_get (L := LL) hlt)]
      simp only [lL, Co.toD, reduceIte, o_tup]
      refine ⟨by decide, ?_⟩
      rw [o_eq_self (x := .tuple [.int nn, .int (badC ws LL a)]) rfl rfl two_sh.1 two_sh.2]
      simp only [lL, Co.toD, reduceIte]
      exact hcut hg5 fun s2 hs2 => ⟨rfl, hq s2 hs2⟩
end
end PD
set_option Elab.async false
set_option linter.all false
set_option maxRecDepth 100000
set_option maxHeartbeats 4000000
namespace PD
open PySem PySem.Spec PyProof.Rows L2 DL Hn K02
theorem c_0 : countB "" = false := by decide +kernel
theorem c_1 : countB "000000" = false := by decide +kernel
theorem c_2 : countB "999999" = true := by decide +kernel
theorem l_0 : ("" : Str).length ≤ 100 := by decide +kernel
theorem l_1 : ("000000" : Str).length ≤ 100 := by decide +kernel
theorem l_2 : ("999999" : Str).length ≤ 100 := by decide +kernel
theorem isB {a b : Bool} {Q : PV → Prop} : wO (pIsB (.d (.bool a)) (.d (.bool b))) Q ↔ Q (.d (.bool (a == b))) := Iff.rfl
theorem law_ok (s : Bg) (hg : Good [] s) : ∃ e' s', q_law (startLaw 3 1) s = .go (.rt (.d (.bool true))) e' s' := by
  refine law_of ?_
  have e : startLaw 3 1 = [.no, .bag, .no] := rfl
  rw [e]
  unfold q_law
  rw [w_seq]
  simp only [w_for, w_iR1, w_aC, w_C, w_aN, wO_ran1, lL, Co.toD, reduceIte]
  refine ⟨by decide, ?_⟩
  refine w_for0 (fun _ e s1 => (∃ sl2 : Sl, e = [.no, .bag, sl2]) ∧ Good [] s1) ⟨⟨_, rfl⟩, hg⟩ ?_ ?_
  · rintro kk e s1 x hx ⟨⟨sl2, rfl⟩, hg1⟩
    simp only [pd_put1, lL, Co.toD, reduceIte]
    simp only [w_ifS, w_bNot, w_bV, w_call, w_aC, w_aN, w_V, lL, Co.toD, reduceIte]
    refine right_ok hg1 fun s2 hg2 => ?_
    simp only [lL, Co.toD, reduceIte, w_nop]
    exact ⟨⟨_, rfl⟩, hg2⟩
  · rintro e s1 ⟨⟨sl2, rfl⟩, hg1⟩
    simp only [w_ret, w_And, w_2, w_call, w_aC, w_aN, w_C, lL, Co.toD, reduceIte, wE_eq (count_eq l_0), wE_eq (count_eq l_1), wE_eq (count_eq l_2), c_0, c_1, c_2, isB]
    simp
end PD
namespace K02
open PySem DL
theorem pure_law (ns : List Int) (_ : ns.length ≤ 63) : ∀ w m, Begin tll ns w m → ∃ m', N_law [w] m = .ok (.d (.bool true)) m' := law_pd_of PD.law_ok
end K02
set_option Elab.async false
set_option linter.all false
set_option maxRecDepth 100000
set_option maxHeartbeats 0
namespace K02
open PySem PySem.Spec PyProof.Rows L2 DL Hn
def top (i : Nat) : Stmt := PySem.Challenge.pw_leastdoubt_k02_words_of_lines_one_by_one.main.body.getD i (.Pass ⟨0, 0, 0, 0⟩)
structure Mo (K : PySem.W.Frag) (mg : Str → Option Value) : Prop where
  b_abs : mg "abs" = none
  b_all : mg "all" = none
  b_bool : mg "bool" = none
  b_int : mg "int" = none
  b_isinstance : mg "isinstance" = none
  b_len : mg "len" = none
  b_list : mg "list" = none
  b_range : mg "range" = none
  b_str : mg "str" = none
  b_sum : mg "sum" = none
  b_super : mg "super" = none
  b_tuple : mg "tuple" = none
  b_zip : mg "zip" = none
  c_DIGITS : Con K mg "DIGITS" d_DIGITS
  c_LETTERS : Con K mg "LETTERS" d_LETTERS
  c_MOST_DIGITS : Con K mg "MOST_DIGITS" d_MOST_DIGITS
  c_MOST_NAME : Con K mg "MOST_NAME" d_MOST_NAME
  c_RESERVED : Con K mg "RESERVED" d_RESERVED
  f_Words_its_words : ClF K ["Words"] "its_words"
  f_Words_its_at : ClF K ["Words"] "its_at"
  f_Words_its_number : ClF K ["Words"] "its_number"
  f_Words_its_end : ClF K ["Words"] "its_end"
  k_BadText : EcF K mg "BadText" ["column", "line"]
  sub : SubK K (subOf sbl)
abbrev s__law_bag : Stmt := top 16
abbrev s_words_of : Stmt := top 12
abbrev s_Words___init__ : Stmt := clsStm (top 14) 0
abbrev s_Words_peek : Stmt := clsStm (top 14) 1
abbrev s_Words_need : Stmt := clsStm (top 14) 2
abbrev s_Words_close : Stmt := clsStm (top 14) 6
abbrev s__law_take : Stmt := top 17
abbrev s__law_alike : Stmt := top 19
abbrev s__law_some : Stmt := top 18
abbrev s_is_name : Stmt := top 8
abbrev s_Words_a_name : Stmt := clsStm (top 14) 4
abbrev s_is_count : Stmt := top 13
abbrev s_Words_number : Stmt := clsStm (top 14) 5
abbrev s_Words_mark : Stmt := clsStm (top 14) 3
abbrev s__law_taken : Stmt := top 22
abbrev s__law_is_name : Stmt := top 20
abbrev s__law_is_count : Stmt := top 21
abbrev s__law_are_words_right : Stmt := top 23
abbrev s_law : Stmt := top 24
abbrev m_BadText : Stmt := clsStm (top 3) 0
def dE_BadText : ErD := ⟨"BadText", "BadText.__init__", defArgs m_BadText, defBody m_BadText, defScope m_BadText, ["line", "column"]⟩
theorem is_BadText : IniS ["self", "line", "column"] (defArgs m_BadText) (defScope m_BadText) := ⟨rfl, rfl, rfl, by decide +kernel, by decide +kernel, by decide +kernel, iniFree (by decide +kernel), ⟨_, rfl, rfl⟩, by decide +kernel, by decide +kernel⟩
theorem er_BadText {P : Program} {w : World} {K : PySem.W.Frag} {mg : Str → Option Value} {base : Heap} (F : ∃ C fI cc cda dV kV doc pm ct an, ErF P K mg dE_BadText C fI cc cda dV kV doc pm ct an) : Er P w K mg base "BadText" 2 [("line", 0), ("column", 1)] := by
  obtain ⟨C, fI, cc, cda, dV, kV, doc, pm, ct, an, F⟩ := F
  have e := F.dn
  subst e
  exact ⟨C, fI, _, ["self", "line", "column"], F.mgC, F.ns, F.er.ex, F.iC, F.tI, Binds.all (fun us hl => match us, hl with | [_, _, _], _ => rfl),
    init_fn (ps := ["self", "line", "column"]) (idx := [1, 2]) (fs := [("column", 2)]) F.er F.cd is_BadText rfl (ini_no F.no rfl (by decide)) (by decide) (by decide) (by decide) (fun A outer s H E => (pa_cons (pe_var rfl (Or.inl rfl)) (pa_cons (pe_var rfl (Or.inl rfl)) pa_nil))) (fun A outer s H E => (pss_cons (ps_ost (pe_var rfl (Or.inl rfl)) (pe_var rfl (Or.inl rfl))) (pss_cons (ps_ost (pe_var rfl (Or.inl rfl)) (pe_var rfl (Or.inl rfl))) pss_nil))) (fun _ => rfl) (fun _ => rfl) (fun _ => rfl) _ (fun _ => rfl)⟩
section
variable {P : Program} {w : World} {K : PySem.W.Frag} {mg : Str → Option Value} {base : Heap}
theorem sc__law_bag : FnScope ["script", "cell"] ["script"] (defScope s__law_bag) := ⟨rfl, rfl, rfl, by decide +kernel, rfl, by decide +kernel, by decide +kernel⟩
theorem ok__law_bag (M : Mo K mg) (D : Df K mg "_law_bag" s__law_bag) : Kn P w K mg base 1 1 "_law_bag" ["script"] N__law_bag := by
  have S := sc__law_bag
  unfold N__law_bag
  exact (k_fn D S rfl rfl (fun _ _ F => F.bindsN fun _ _ _ _ _ _ us hl => match us, hl with | [_], _ => rfl) fun f cdv A outer s H E hr tk hp =>
(ds_one (ds_ret (de_lst (da_cons de_int (da_cons de_int (da_cons de_int (da_cons (de_lc (own := [("cell", 1)]) rfl S.nd (di_val (de_sl (de_V (pv 0)) do_none (do_some de_int))) (blkOk_by (by rfl)) (fun _ _ _ _ _ => (pg_name S.nd (i := 1) rfl (Or.inl rfl))) gt_name rfl (fun _ _ _ _ _ => dts_nil) (fun _ _ _ _ _ => (de_callB o_abs rfl M.b_abs bt_abs (da_cons (de_V (pv 1)) da_nil)))) da_nil))))))))
theorem sc_words_of : FnScope ["text", "found", "column", "word"] ["text"] (defScope s_words_of) := ⟨rfl, rfl, rfl, by decide +kernel, rfl, by decide +kernel, by decide +kernel⟩
theorem ok_words_of (M : Mo K mg) (D : Df K mg "words_of" s_words_of) : Kn P w K mg base 1 1 "words_of" ["text"] N_words_of := by
  have S := sc_words_of
  unfold N_words_of
  exact (k_fn D S rfl rfl (fun _ _ F => F.bindsN fun _ _ _ _ _ _ us hl => match us, hl with | [_], _ => rfl) fun f cdv A outer s H E hr tk hp =>
(ds_seq (ds_par (ps_par (i := 1) (j := 2) rfl S.nd rfl rfl (by decide) rfl rfl (da_cons (de_lst da_nil) (da_cons de_int da_nil)) (by with_unfolding_all rfl))) <|
(ds_seq (ds_for hp rfl (di_val (de_split (de_V (pv 0)) de_str)) (pg_name S.nd (i := 3) rfl (Or.inl rfl)) gt_name
(ds_seq (ds_expr (de_app (de_V (pv 1)) (da_cons (de_tup (da_cons (de_V (pv 3)) (da_cons (de_V (pv 2)) da_nil))) da_nil))) <|
(ds_one (ds_aug (i := 2) a_add S.nd rfl (Or.inl rfl) (de_bin o_add (de_callB c_len rfl M.b_len bt_len (da_cons (de_V (pv 3)) da_nil)) de_int))))) <|
(ds_one (ds_ret (de_callT o_tuple rfl M.b_tuple bt_tuple (da_cons (de_V (pv 1)) da_nil)))))))
theorem sc_Words___init__ : FnScope ["self", "text", "number"] ["self", "text", "number"] (defScope s_Words___init__) := ⟨rfl, rfl, rfl, by decide +kernel, rfl, by decide +kernel, by decide +kernel⟩
theorem ok_Words___init__ (M : Mo K mg) (D : DfC K mg "Words" "Words.__init__" s_Words___init__) (C_words_of : Kn P w K mg base 1 1 "words_of" ["text"] N_words_of) : KnC P w K mg base 2 3 "Words" N_Words___init__ := by
  have S := sc_Words___init__
  unfold N_Words___init__
  exact (k_cl D S rfl rfl (fun _ _ F => F.bindsN fun _ _ _ _ _ _ us hl => match us, hl with | [_, _, _], _ => rfl) fun f cdv A outer s H E hr tk hp =>
(ds_seq (ds_fset M.f_Words_its_words (de_V (pv 0)) (de_callK C_words_of tk hr (by decide) rfl (da_cons (de_V (pv 1)) da_nil))) <|
(ds_one (ds_fpar (i := 0) (x := "self") rfl (clfs_cons M.f_Words_its_end (clfs_cons M.f_Words_its_number (clfs_cons M.f_Words_its_at clfs_nil))) (.cons (.cons (.cons .nil))) (fun _ => pv 0) (de_tup (da_cons (de_bin o_add (de_callB c_len rfl M.b_len bt_len (da_cons (de_V (pv 1)) da_nil)) de_int) (da_cons (de_V (pv 2)) (da_cons de_int da_nil))))))))
theorem sc_Words_peek : FnScope ["self"] ["self"] (defScope s_Words_peek) := ⟨rfl, rfl, rfl, by decide +kernel, rfl, by decide +kernel, by decide +kernel⟩
theorem ok_Words_peek (M : Mo K mg) (D : DfM K "Words" "peek" "Words.peek" s_Words_peek) : KnM P w K mg base 1 1 "Words" "peek" N_Words_peek := by
  have S := sc_Words_peek
  unfold N_Words_peek
  exact (k_me D S rfl rfl (fun _ _ F => F.bindsN fun _ _ _ _ _ _ us hl => match us, hl with | [_], _ => rfl) fun f cdv A outer s H E hr tk hp =>
(ds_one (ds_ret (de_if (dt_cmp o_lt (de_fld M.f_Words_its_at (de_V (pv 0))) (de_callB c_len rfl M.b_len bt_len (da_cons (de_fld M.f_Words_its_words (de_V (pv 0))) da_nil)) (nomark _)) (de_ix i_ix (de_ix i_ix (de_fld M.f_Words_its_words (de_V (pv 0))) (de_fld M.f_Words_its_at (de_V (pv 0))) (fun _ _ => rfl)) de_int (fun _ _ => rfl)) de_none))))
theorem sc_Words_need : FnScope ["self", "is_so", "is_there"] ["self", "is_so"] (defScope s_Words_need) := ⟨rfl, rfl, rfl, by decide +kernel, rfl, by decide +kernel, by decide +kernel⟩
theorem ok_Words_need (M : Mo K mg) (D : DfM K "Words" "need" "Words.need" s_Words_need) (C_Words_peek : KnM P w K mg base 1 1 "Words" "peek" N_Words_peek) (E_BadText : Er P w K mg base "BadText" 2 [("line", 0), ("column", 1)]) : KnM P w K mg base 3 2 "Words" "need" N_Words_need := by
  have S := sc_Words_need
  unfold N_Words_need
  exact (k_me D S rfl rfl (fun _ _ F => F.bindsN fun _ _ _ _ _ _ us hl => match us, hl with | [_, _], _ => rfl) fun f cdv A outer s H E hr tk hp =>
(ds_seq (ds_if (dt_pw (dw_or (dt_not (dt_val (de_V (pv 1)))) (dw_or1 (dt_cmp o_isN (de_me0 (k := 1) (km_cons C_Words_peek (by decide) km_nil) tk hr (by decide) (de_V (pv 0))) de_none (nomark _)))))
(ds_seq (ds_set (ps_set (i := 2) S.nd rfl (Or.inl rfl) (de_cmp o_lt (de_fld M.f_Words_its_at (de_V (pv 0))) (de_callB c_len rfl M.b_len bt_len (da_cons (de_fld M.f_Words_its_words (de_V (pv 0))) da_nil)) (nomark _)))) <|
(ds_one (ds_raise E_BadText rfl tk hr (by decide) rfl (by decide) (da_cons (de_fld M.f_Words_its_number (de_V (pv 0))) (da_cons (de_if (dt_val (de_V (pv 2))) (de_ix i_ix (de_ix i_ix (de_fld M.f_Words_its_words (de_V (pv 0))) (de_fld M.f_Words_its_at (de_V (pv 0))) (fun _ _ => rfl)) de_int (fun _ _ => rfl)) (de_fld M.f_Words_its_end (de_V (pv 0)))) da_nil)))))
ds_nil) <|
(ds_seq (ds_faug M.f_Words_its_at a_add (de_V (pv 0)) de_int) <|
(ds_one (ds_ret (de_ix i_ix (de_ix i_ix (de_fld M.f_Words_its_words (de_V (pv 0))) (de_bin o_sub (de_fld M.f_Words_its_at (de_V (pv 0))) de_int) (fun _ _ => rfl)) de_int (fun _ _ => rfl)))))))
theorem sc_Words_close : FnScope ["self"] ["self"] (defScope s_Words_close) := ⟨rfl, rfl, rfl, by decide +kernel, rfl, by decide +kernel, by decide +kernel⟩
theorem ok_Words_close (M : Mo K mg) (D : DfM K "Words" "close" "Words.close" s_Words_close) (C_Words_peek : KnM P w K mg base 1 1 "Words" "peek" N_Words_peek) (C_Words_need : KnM P w K mg base 3 2 "Words" "need" N_Words_need) : KnM P w K mg base 4 1 "Words" "close" N_Words_close := by
  have S := sc_Words_close
  unfold N_Words_close
  exact (k_me D S rfl rfl (fun _ _ F => F.bindsN fun _ _ _ _ _ _ us hl => match us, hl with | [_], _ => rfl) fun f cdv A outer s H E hr tk hp =>
(ds_one (ds_if (dt_cmp o_nn (de_me0 (k := 1) (km_cons C_Words_peek (by decide) km_nil) tk hr (by decide) (de_V (pv 0))) de_none (nomark _))
(ds_one (ds_expr (de_me (k := 3) (km_cons C_Words_need (by decide) km_nil) tk hr (by decide) (de_V (pv 0)) (da_cons de_bool da_nil))))
ds_nil)))
theorem sc__law_take : FnScope ["bag", "many", "cell", "stirred", "value", "begin", "second"] ["bag", "many"] (defScope s__law_take) := ⟨rfl, rfl, rfl, by decide +kernel, rfl, by decide +kernel, by decide +kernel⟩
theorem ok__law_take (M : Mo K mg) (D : Df K mg "_law_take" s__law_take) : Kn P w K mg base 1 2 "_law_take" ["bag", "many"] N__law_take := by
  have S := sc__law_take
  unfold N__law_take
  exact (k_fn D S rfl rfl (fun _ _ F => F.bindsN fun _ _ _ _ _ _ us hl => match us, hl with | [_, _], _ => rfl) fun f cdv A outer s H E hr tk hp =>
(ds_seq (ds_if (dt_cmp (o_eq hr.units) (de_ix i_ix (de_V (pv 0)) de_int (fun _ _ => rfl)) de_int (nomark _))
(ds_seq (ds_set (ps_set (i := 2) S.nd rfl (Or.inl rfl) (de_ix i_ix (de_bin o_add (de_sl (de_ix i_ix (de_V (pv 0)) de_int (fun _ _ => rfl)) (do_some (de_ix i_ix (de_V (pv 0)) de_int (fun _ _ => rfl))) do_none) (de_lst (da_cons de_int da_nil))) de_int (fun _ _ => rfl)))) <|
(ds_seq (ds_augL a_add (de_V (pv 0)) de_int de_int) <|
(ds_seq (ds_if (dt_cmp o_ge (de_V (pv 2)) (de_bin o_pow de_int de_int) (nomark _))
(ds_one (ds_sub (de_V (pv 2)) (de_V (pv 0)) de_int))
ds_nil) <|
(ds_seq (ds_set (ps_set (i := 3) S.nd rfl (Or.inl rfl) (de_bin o_add (de_bin o_add (de_bin o_mul (de_ix i_ix (de_V (pv 0)) de_int (fun _ _ => rfl)) de_int) (de_bin o_mod (de_callT o_int1 rfl M.b_int bt_int (da_cons (de_V (pv 2)) da_nil)) de_int)) (de_bin o_mul de_int (de_ix i_ix (de_V (pv 0)) de_int (fun _ _ => rfl)))))) <|
(ds_one (ds_sub (de_bin o_mod (de_callT o_int1 rfl M.b_int bt_int (da_cons (de_V (pv 3)) da_nil)) de_int) (de_V (pv 0)) de_int))))))
ds_nil) <|
(ds_seq (ds_if (dt_cmp o_gt (de_ix i_ix (de_V (pv 0)) de_int (fun _ _ => rfl)) de_int (nomark _))
(ds_seq (ds_set (ps_set (i := 4) S.nd rfl (Or.inl rfl) (de_bin o_mod (de_callT o_int1 rfl M.b_int bt_int (da_cons (de_ix i_ix (de_V (pv 0)) de_int (fun _ _ => rfl)) da_nil)) (de_V (pv 1))))) <|
(ds_seq (ds_sub (de_bin o_fdiv (de_callT o_int1 rfl M.b_int bt_int (da_cons (de_ix i_ix (de_V (pv 0)) de_int (fun _ _ => rfl)) da_nil)) (de_V (pv 1))) (de_V (pv 0)) de_int) <|
(ds_one (ds_ret (de_V (pv 4))))))
ds_nil) <|
(ds_seq (ds_set (ps_set (i := 5) S.nd rfl (Or.inl rfl) (de_bin o_mod (de_callT o_int1 rfl M.b_int bt_int (da_cons (de_bin o_mul (de_bin o_add (de_ix i_ix (de_V (pv 0)) de_int (fun _ _ => rfl)) de_int) de_int) da_nil)) de_int))) <|
(ds_seq (ds_set (ps_set (i := 6) S.nd rfl (Or.inl rfl) (de_bin o_mod (de_callT o_int1 rfl M.b_int bt_int (da_cons (de_bin o_mul (de_bin o_mod (de_callT o_int1 rfl M.b_int bt_int (da_cons (de_bin o_mul (de_V (pv 5)) (de_V (pv 5))) da_nil)) de_int) de_int) da_nil)) de_int))) <|
(ds_one (ds_ret (de_bin o_mod (de_callT o_int1 rfl M.b_int bt_int (da_cons (de_bin o_fdiv (de_V (pv 6)) de_int) da_nil)) (de_V (pv 1))))))))))
theorem sc__law_alike : FnScope ["found", "due", "pairs", "at", "one", "other"] ["found", "due"] (defScope s__law_alike) := ⟨rfl, rfl, rfl, by decide +kernel, rfl, by decide +kernel, by decide +kernel⟩
theorem ok__law_alike (M : Mo K mg) (D : Df K mg "_law_alike" s__law_alike) : Kn P w K mg base 1 2 "_law_alike" ["found", "due"] N__law_alike := by
  have S := sc__law_alike
  unfold N__law_alike
  exact (k_fn D S rfl rfl (fun _ _ F => F.bindsN fun _ _ _ _ _ _ us hl => match us, hl with | [_, _], _ => rfl) fun f cdv A outer s H E hr tk hp =>
(ds_seq (ds_par (ps_par (i := 2) (j := 3) rfl S.nd rfl rfl (by decide) rfl rfl (da_cons (de_lst (da_cons (de_tup (da_cons (de_V (pv 0)) (da_cons (de_V (pv 1)) da_nil))) da_nil)) (da_cons de_int da_nil)) (by with_unfolding_all rfl))) <|
(ds_seq (ds_while hp (dt_cmp o_lt (de_V (pv 3)) (de_callB c_len rfl M.b_len bt_len (da_cons (de_V (pv 2)) da_nil)) (nomark _))
(ds_seq (ds_asg (de_ix i_ix (de_V (pv 2)) (de_V (pv 3)) (fun _ _ => rfl)) (pg_tup rfl (pgs_cons (pg_name S.nd (i := 4) rfl (Or.inl rfl)) (pgs_cons (pg_name S.nd (i := 5) rfl (Or.inl rfl)) pgs_nil))) (gt_tup (gts_cons gt_name (gts_cons gt_name gts_nil)) rfl)) <|
(ds_seq (ds_aug (i := 3) a_add S.nd rfl (Or.inl rfl) de_int) <|
(ds_seq (ds_if (dt_pw (dw_or (dt_cmp (o_ne hr.units) (de_isi (T := "bool") (by decide) rfl M.b_isinstance rfl M.b_bool bt_bool (de_V (pv 4)) bt_isi) (de_isi (T := "bool") (by decide) rfl M.b_isinstance rfl M.b_bool bt_bool (de_V (pv 5)) bt_isi) (nomark _)) (dw_or1 (dt_cmp (o_ne hr.units) (de_isi (T := "str") (by decide) rfl M.b_isinstance rfl M.b_str bt_str (de_V (pv 4)) bt_isi) (de_isi (T := "str") (by decide) rfl M.b_isinstance rfl M.b_str bt_str (de_V (pv 5)) bt_isi) (nomark _)))))
(ds_one (ds_ret de_bool))
ds_nil) <|
(ds_seq (ds_if (dt_cmp (o_ne hr.units) (de_isi2 (T := "tuple") (U := "list") (by decide) (by decide) rfl M.b_isinstance rfl M.b_tuple bt_tuple rfl M.b_list bt_list (de_V (pv 4)) bt_isi) (de_isi2 (T := "tuple") (U := "list") (by decide) (by decide) rfl M.b_isinstance rfl M.b_tuple bt_tuple rfl M.b_list bt_list (de_V (pv 5)) bt_isi) (nomark _))
(ds_one (ds_ret de_bool))
ds_nil) <|
(ds_one (ds_if (dt_val (de_isi2 (T := "tuple") (U := "list") (by decide) (by decide) rfl M.b_isinstance rfl M.b_tuple bt_tuple rfl M.b_list bt_list (de_V (pv 4)) bt_isi))
(ds_seq (ds_if (dt_pw (dw_or (dt_cmp (o_ne hr.units) (de_isi (T := "tuple") (by decide) rfl M.b_isinstance rfl M.b_tuple bt_tuple (de_V (pv 4)) bt_isi) (de_isi (T := "tuple") (by decide) rfl M.b_isinstance rfl M.b_tuple bt_tuple (de_V (pv 5)) bt_isi) (nomark _)) (dw_or1 (dt_cmp (o_ne hr.units) (de_callB c_len rfl M.b_len bt_len (da_cons (de_V (pv 4)) da_nil)) (de_callB c_len rfl M.b_len bt_len (da_cons (de_V (pv 5)) da_nil)) (nomark _)))))
(ds_one (ds_ret de_bool))
ds_nil) <|
(ds_one (ds_expr (de_ext (de_V (pv 2)) (da_cons (de_lz rfl rfl M.b_list rfl M.b_zip (da_cons (de_V (pv 4)) (da_cons (de_V (pv 5)) da_nil))) da_nil)))))
(ds_one (ds_if (dt_cmp (o_ne hr.units) (de_V (pv 4)) (de_V (pv 5)) (nomark _))
(ds_one (ds_ret de_bool))
ds_nil))))))))) <|
(ds_one (ds_ret de_bool)))))
theorem sc__law_some : FnScope ["bag", "things"] ["bag", "things"] (defScope s__law_some) := ⟨rfl, rfl, rfl, by decide +kernel, rfl, by decide +kernel, by decide +kernel⟩
theorem ok__law_some (M : Mo K mg) (D : Df K mg "_law_some" s__law_some) (C__law_take : Kn P w K mg base 1 2 "_law_take" ["bag", "many"] N__law_take) : Kn P w K mg base 2 2 "_law_some" ["bag", "things"] N__law_some := by
  have S := sc__law_some
  unfold N__law_some
  exact (k_fn D S rfl rfl (fun _ _ F => F.bindsN fun _ _ _ _ _ _ us hl => match us, hl with | [_, _], _ => rfl) fun f cdv A outer s H E hr tk hp =>
(ds_one (ds_ret (de_ix i_ix (de_V (pv 1)) (de_callK C__law_take tk hr (by decide) rfl (da_cons (de_V (pv 0)) (da_cons (de_callB c_len rfl M.b_len bt_len (da_cons (de_V (pv 1)) da_nil)) da_nil))) (fun _ _ => rfl)))))
theorem sc_is_name : FnScope ["thing", "sign"] ["thing"] (defScope s_is_name) := ⟨rfl, rfl, rfl, by decide +kernel, rfl, by decide +kernel, by decide +kernel⟩
theorem ok_is_name (M : Mo K mg) (D : Df K mg "is_name" s_is_name) : Kn P w K mg base 1 1 "is_name" ["thing"] N_is_name := by
  have S := sc_is_name
  unfold N_is_name
  exact (k_fn D S rfl rfl (fun _ _ F => F.bindsN fun _ _ _ _ _ _ us hl => match us, hl with | [_], _ => rfl) fun f cdv A outer s H E hr tk hp =>
(ds_seq (ds_if (dt_pw (dw_or (dt_not (dt_val (de_isi (T := "str") (by decide) rfl M.b_isinstance rfl M.b_str bt_str (de_V (pv 0)) bt_isi))) (dw_or (dt_not (dt_chain o_le o_le de_int (de_callB c_len rfl M.b_len bt_len (da_cons (de_V (pv 0)) da_nil)) (de_K rfl M.c_MOST_NAME))) (dw_or1 (dt_cmp o_in (de_V (pv 0)) (de_K rfl M.c_RESERVED) (by with_unfolding_all rfl))))))
(ds_one (ds_ret de_bool))
ds_nil) <|
(ds_one (ds_ret (de_callB (o_all rfl) rfl M.b_all bt_all (da_cons (de_lc (own := [("sign", 1)]) rfl S.nd (di_val (de_V (pv 0))) (blkOk_by (by rfl)) (fun _ _ _ _ _ => (pg_name S.nd (i := 1) rfl (Or.inl rfl))) gt_name rfl (fun _ _ _ _ _ => dts_nil) (fun _ _ _ _ _ => (de_cmp o_in (de_V (pv 1)) (de_K rfl M.c_LETTERS) (by with_unfolding_all rfl)))) da_nil))))))
theorem sc_Words_a_name : FnScope ["self"] ["self"] (defScope s_Words_a_name) := ⟨rfl, rfl, rfl, by decide +kernel, rfl, by decide +kernel, by decide +kernel⟩
theorem ok_Words_a_name (M : Mo K mg) (D : DfM K "Words" "a_name" "Words.a_name" s_Words_a_name) (C_Words_need : KnM P w K mg base 3 2 "Words" "need" N_Words_need) (C_Words_peek : KnM P w K mg base 1 1 "Words" "peek" N_Words_peek) (C_is_name : Kn P w K mg base 1 1 "is_name" ["thing"] N_is_name) : KnM P w K mg base 4 1 "Words" "a_name" N_Words_a_name := by
  have S := sc_Words_a_name
  unfold N_Words_a_name
  exact (k_me D S rfl rfl (fun _ _ F => F.bindsN fun _ _ _ _ _ _ us hl => match us, hl with | [_], _ => rfl) fun f cdv A outer s H E hr tk hp =>
(ds_one (ds_ret (de_me (k := 3) (km_cons C_Words_need (by decide) km_nil) tk hr (by decide) (de_V (pv 0)) (da_cons (de_and (de_cmp o_nn (de_me0 (k := 1) (km_cons C_Words_peek (by decide) km_nil) tk hr (by decide) (de_V (pv 0))) de_none (nomark _)) (de_one (de_callK C_is_name tk hr (by decide) rfl (da_cons (de_me0 (k := 1) (km_cons C_Words_peek (by decide) km_nil) tk hr (by decide) (de_V (pv 0))) da_nil)))) da_nil)))))
theorem sc_is_count : FnScope ["word", "sign"] ["word"] (defScope s_is_count) := ⟨rfl, rfl, rfl, by decide +kernel, rfl, by decide +kernel, by decide +kernel⟩
theorem ok_is_count (M : Mo K mg) (D : Df K mg "is_count" s_is_count) : Kn P w K mg base 1 1 "is_count" ["word"] N_is_count := by
  have S := sc_is_count
  unfold N_is_count
  exact (k_fn D S rfl rfl (fun _ _ F => F.bindsN fun _ _ _ _ _ _ us hl => match us, hl with | [_], _ => rfl) fun f cdv A outer s H E hr tk hp =>
(ds_seq (ds_if (dt_pw (dw_or (dt_not (dt_chain o_le o_le de_int (de_callB c_len rfl M.b_len bt_len (da_cons (de_V (pv 0)) da_nil)) (de_K rfl M.c_MOST_DIGITS))) (dw_or1 (dt_not (dt_val (de_callB (o_all rfl) rfl M.b_all bt_all (da_cons (de_lc (own := [("sign", 1)]) rfl S.nd (di_val (de_V (pv 0))) (blkOk_by (by rfl)) (fun _ _ _ _ _ => (pg_name S.nd (i := 1) rfl (Or.inl rfl))) gt_name rfl (fun _ _ _ _ _ => dts_nil) (fun _ _ _ _ _ => (de_cmp o_in (de_V (pv 1)) (de_K rfl M.c_DIGITS) (by with_unfolding_all rfl)))) da_nil)))))))
(ds_one (ds_ret de_bool))
ds_nil) <|
(ds_one (ds_ret (de_or (de_cmp (o_eq hr.units) (de_V (pv 0)) de_str (nomark _)) (de_one (de_cmp (o_ne hr.units) (de_ix i_ix (de_V (pv 0)) de_int (fun _ _ => rfl)) de_str (nomark _))))))))
theorem sc_Words_number : FnScope ["self"] ["self"] (defScope s_Words_number) := ⟨rfl, rfl, rfl, by decide +kernel, rfl, by decide +kernel, by decide +kernel⟩
theorem ok_Words_number (M : Mo K mg) (D : DfM K "Words" "number" "Words.number" s_Words_number) (C_Words_need : KnM P w K mg base 3 2 "Words" "need" N_Words_need) (C_Words_peek : KnM P w K mg base 1 1 "Words" "peek" N_Words_peek) (C_is_count : Kn P w K mg base 1 1 "is_count" ["word"] N_is_count) : KnM P w K mg base 4 1 "Words" "number" N_Words_number := by
  have S := sc_Words_number
  unfold N_Words_number
  exact (k_me D S rfl rfl (fun _ _ F => F.bindsN fun _ _ _ _ _ _ us hl => match us, hl with | [_], _ => rfl) fun f cdv A outer s H E hr tk hp =>
(ds_one (ds_ret (de_callT o_intA rfl M.b_int bt_int (da_cons (de_me (k := 3) (km_cons C_Words_need (by decide) km_nil) tk hr (by decide) (de_V (pv 0)) (da_cons (de_and (de_cmp o_nn (de_me0 (k := 1) (km_cons C_Words_peek (by decide) km_nil) tk hr (by decide) (de_V (pv 0))) de_none (nomark _)) (de_one (de_callK C_is_count tk hr (by decide) rfl (da_cons (de_me0 (k := 1) (km_cons C_Words_peek (by decide) km_nil) tk hr (by decide) (de_V (pv 0))) da_nil)))) da_nil)) da_nil)))))
theorem sc_Words_mark : FnScope ["self", "word"] ["self", "word"] (defScope s_Words_mark) := ⟨rfl, rfl, rfl, by decide +kernel, rfl, by decide +kernel, by decide +kernel⟩
theorem ok_Words_mark (M : Mo K mg) (D : DfM K "Words" "mark" "Words.mark" s_Words_mark) (C_Words_need : KnM P w K mg base 3 2 "Words" "need" N_Words_need) (C_Words_peek : KnM P w K mg base 1 1 "Words" "peek" N_Words_peek) : KnM P w K mg base 4 2 "Words" "mark" N_Words_mark := by
  have S := sc_Words_mark
  unfold N_Words_mark
  exact (k_me D S rfl rfl (fun _ _ F => F.bindsN fun _ _ _ _ _ _ us hl => match us, hl with | [_, _], _ => rfl) fun f cdv A outer s H E hr tk hp =>
(ds_one (ds_expr (de_me (k := 3) (km_cons C_Words_need (by decide) km_nil) tk hr (by decide) (de_V (pv 0)) (da_cons (de_cmp (o_eq hr.units) (de_me0 (k := 1) (km_cons C_Words_peek (by decide) km_nil) tk hr (by decide) (de_V (pv 0))) (de_V (pv 1)) (nomark _)) da_nil)))))
theorem sc__law_taken : FnScope ["one", "way", "mark"] ["one", "way", "mark"] (defScope s__law_taken) := ⟨rfl, rfl, rfl, by decide +kernel, rfl, by decide +kernel, by decide +kernel⟩
theorem ok__law_taken (M : Mo K mg) (D : Df K mg "_law_taken" s__law_taken) (C_Words_a_name : KnM P w K mg base 4 1 "Words" "a_name" N_Words_a_name) (C_Words_number : KnM P w K mg base 4 1 "Words" "number" N_Words_number) (C_Words_mark : KnM P w K mg base 4 2 "Words" "mark" N_Words_mark) (C_Words_need : KnM P w K mg base 3 2 "Words" "need" N_Words_need) : Kn P w K mg base 5 3 "_law_taken" ["one", "way", "mark"] N__law_taken := by
  have S := sc__law_taken
  unfold N__law_taken
  exact (k_fn D S rfl rfl (fun _ _ F => F.bindsN fun _ _ _ _ _ _ us hl => match us, hl with | [_, _, _], _ => rfl) fun f cdv A outer s H E hr tk hp =>
(ds_seq (ds_if (dt_cmp (o_eq hr.units) (de_V (pv 1)) de_int (nomark _))
(ds_one (ds_ret (de_me0 (k := 4) (km_cons C_Words_a_name (by decide) km_nil) tk hr (by decide) (de_V (pv 0)))))
ds_nil) <|
(ds_seq (ds_if (dt_cmp (o_eq hr.units) (de_V (pv 1)) de_int (nomark _))
(ds_one (ds_ret (de_me0 (k := 4) (km_cons C_Words_number (by decide) km_nil) tk hr (by decide) (de_V (pv 0)))))
ds_nil) <|
(ds_one (ds_ret (de_if (dt_cmp (o_eq hr.units) (de_V (pv 1)) de_int (nomark _)) (de_me (k := 4) (km_cons C_Words_mark (by decide) km_nil) tk hr (by decide) (de_V (pv 0)) (da_cons (de_V (pv 2)) da_nil)) (de_me (k := 3) (km_cons C_Words_need (by decide) km_nil) tk hr (by decide) (de_V (pv 0)) (da_cons (de_cmp (o_eq hr.units) (de_V (pv 1)) de_int (nomark _)) da_nil))))))))
theorem sc__law_is_name : FnScope ["word", "some", "sign"] ["word"] (defScope s__law_is_name) := ⟨rfl, rfl, rfl, by decide +kernel, rfl, by decide +kernel, by decide +kernel⟩
theorem ok__law_is_name (M : Mo K mg) (D : Df K mg "_law_is_name" s__law_is_name) : Kn P w K mg base 1 1 "_law_is_name" ["word"] N__law_is_name := by
  have S := sc__law_is_name
  unfold N__law_is_name
  exact (k_fn D S rfl rfl (fun _ _ F => F.bindsN fun _ _ _ _ _ _ us hl => match us, hl with | [_], _ => rfl) fun f cdv A outer s H E hr tk hp =>
(ds_seq (ds_set (ps_set (i := 1) S.nd rfl (Or.inl rfl) (de_lst (da_cons de_str (da_cons de_str (da_cons de_str (da_cons de_str (da_cons de_str (da_cons de_str (da_cons de_str (da_cons de_str (da_cons de_str (da_cons de_str (da_cons de_str da_nil)))))))))))))) <|
(ds_seq (ds_if (dt_pw (dw_or (dt_not (dt_val (de_isi (T := "str") (by decide) rfl M.b_isinstance rfl M.b_str bt_str (de_V (pv 0)) bt_isi))) (dw_or (dt_not (dt_chain o_le o_le de_int (de_callB c_len rfl M.b_len bt_len (da_cons (de_V (pv 0)) da_nil)) de_int)) (dw_or1 (dt_cmp o_in (de_V (pv 0)) (de_V (pv 1)) (by with_unfolding_all rfl))))))
(ds_one (ds_ret de_bool))
ds_nil) <|
(ds_one (ds_ret (de_cmp (o_eq hr.units) (de_lc (own := [("sign", 2)]) rfl S.nd (di_val (de_V (pv 0))) (blkOk_by (by rfl)) (fun _ _ _ _ _ => (pg_name S.nd (i := 2) rfl (Or.inl rfl))) gt_name rfl (fun _ _ _ _ _ => (dts_one (dt_cmp o_ni (de_V (pv 2)) de_str (by with_unfolding_all rfl)))) (fun _ _ _ _ _ => de_int)) (de_lst da_nil) (nomark _)))))))
theorem sc__law_is_count : FnScope ["word", "sign"] ["word"] (defScope s__law_is_count) := ⟨rfl, rfl, rfl, by decide +kernel, rfl, by decide +kernel, by decide +kernel⟩
theorem ok__law_is_count (M : Mo K mg) (D : Df K mg "_law_is_count" s__law_is_count) : Kn P w K mg base 1 1 "_law_is_count" ["word"] N__law_is_count := by
  have S := sc__law_is_count
  unfold N__law_is_count
  exact (k_fn D S rfl rfl (fun _ _ F => F.bindsN fun _ _ _ _ _ _ us hl => match us, hl with | [_], _ => rfl) fun f cdv A outer s H E hr tk hp =>
(ds_seq (ds_if (dt_pw (dw_or (dt_not (dt_chain o_le o_le de_int (de_callB c_len rfl M.b_len bt_len (da_cons (de_V (pv 0)) da_nil)) de_int)) (dw_or1 (dt_cmp (o_ne hr.units) (de_lc (own := [("sign", 1)]) rfl S.nd (di_val (de_V (pv 0))) (blkOk_by (by rfl)) (fun _ _ _ _ _ => (pg_name S.nd (i := 1) rfl (Or.inl rfl))) gt_name rfl (fun _ _ _ _ _ => (dts_one (dt_cmp o_ni (de_V (pv 1)) de_str (by with_unfolding_all rfl)))) (fun _ _ _ _ _ => de_int)) (de_lst da_nil) (nomark _)))))
(ds_one (ds_ret de_bool))
ds_nil) <|
(ds_one (ds_ret (de_or (de_cmp (o_eq hr.units) (de_V (pv 0)) de_str (nomark _)) (de_one (de_cmp (o_ne hr.units) (de_ix i_ix (de_V (pv 0)) de_int (fun _ _ => rfl)) de_str (nomark _))))))))
theorem sc__law_are_words_right : FnScope ["bag", "some", "text", "number", "words", "columns", "one", "at", "step", "word", "way", "mark", "good", "told", "due", "e"] ["bag"] (defScope s__law_are_words_right) := ⟨rfl, rfl, rfl, by decide +kernel, rfl, by decide +kernel, by decide +kernel⟩
theorem ok__law_are_words_right (M : Mo K mg) (D : Df K mg "_law_are_words_right" s__law_are_words_right) (C_Words___init__ : KnC P w K mg base 2 3 "Words" N_Words___init__) (C_Words_close : KnM P w K mg base 4 1 "Words" "close" N_Words_close) (C_Words_peek : KnM P w K mg base 1 1 "Words" "peek" N_Words_peek) (C__law_take : Kn P w K mg base 1 2 "_law_take" ["bag", "many"] N__law_take) (C__law_alike : Kn P w K mg base 1 2 "_law_alike" ["found", "due"] N__law_alike) (C__law_some : Kn P w K mg base 2 2 "_law_some" ["bag", "things"] N__law_some) (C__law_taken : Kn P w K mg base 5 3 "_law_taken" ["one", "way", "mark"] N__law_taken) (C_words_of : Kn P w K mg base 1 1 "words_of" ["text"] N_words_of) (C__law_is_name : Kn P w K mg base 1 1 "_law_is_name" ["word"] N__law_is_name) (C__law_is_count : Kn P w K mg base 1 1 "_law_is_count" ["word"] N__law_is_count) (C_is_count : Kn P w K mg base 1 1 "is_count" ["word"] N_is_count) : Kn P w K mg base 6 1 "_law_are_words_right" ["bag"] N__law_are_words_right := by
  have S := sc__law_are_words_right
  unfold N__law_are_words_right
  exact (k_fn D S rfl rfl (fun _ _ F => F.bindsN fun _ _ _ _ _ _ us hl => match us, hl with | [_], _ => rfl) fun f cdv A outer s H E hr tk hp =>
(ds_seq (ds_set (ps_set (i := 1) S.nd rfl (Or.inr rfl) (de_lst (da_cons de_str (da_cons de_str (da_cons de_str (da_cons de_str (da_cons de_str (da_cons de_str (da_cons de_str (da_cons de_str (da_cons de_str (da_cons de_str (da_cons de_str (da_cons de_str (da_cons de_str (da_cons de_str da_nil))))))))))))))))) <|
(ds_seq (ds_par (ps_par (i := 2) (j := 3) rfl S.nd rfl rfl (by decide) rfl rfl (da_cons (de_join de_str (de_lc (own := [("word", 9)]) rfl S.nd (di_ran1 rfl M.b_range (da_cons (de_callK C__law_take tk hr (by decide) rfl (da_cons (de_V (pv 0)) (da_cons de_int da_nil))) da_nil)) (blkOk_by (by rfl)) (fun _ _ _ _ _ => (pg_name S.nd (i := 9) rfl (Or.inl rfl))) gt_name rfl (fun _ _ _ _ _ => dts_nil) (fun _ _ _ _ _ => (de_callK C__law_some takes0 hr (by decide) rfl (da_cons (de_V (pv 0)) (da_cons (de_V (pv 1)) da_nil)))))) (da_cons (de_bin o_add de_int (de_callK C__law_take tk hr (by decide) rfl (da_cons (de_V (pv 0)) (da_cons de_int da_nil)))) da_nil)) (by with_unfolding_all rfl))) <|
(ds_seq (ds_set (ps_set (i := 4) S.nd rfl (Or.inr rfl) (de_split (de_V (pv 2)) de_str))) <|
(ds_seq (ds_setLc (own := [("at", 7)]) (i := 5) rfl S.nd rfl rfl (sw_true (by rfl) (by rfl) (by rfl) (by rfl)) (di_ran1 rfl M.b_range (da_cons (de_callB c_len rfl M.b_len bt_len (da_cons (de_V (pv 4)) da_nil)) da_nil)) (blkOk_by (by rfl)) (fun _ _ _ _ _ => (pg_name S.nd (i := 7) rfl (Or.inl rfl))) gt_name rfl (fun _ _ _ _ _ => dts_nil) (fun _ _ _ _ _ => (de_bin o_add de_int (de_callB (o_sum1 rfl) rfl M.b_sum bt_sum (da_cons (de_lc (own := [("one", 6)]) rfl S.nd (di_val (de_sl (de_V (pv 4)) do_none (do_some (de_V (pv 7))))) (blkOk_by (by rfl)) (fun _ _ _ _ _ => (pg_name S.nd (i := 6) rfl (Or.inl rfl))) gt_name rfl (fun _ _ _ _ _ => dts_nil) (fun _ _ _ _ _ => (de_bin o_add (de_callB c_len rfl M.b_len bt_len (da_cons (de_V (pv 6)) da_nil)) de_int))) da_nil))))) <|
(ds_seq (ds_if (dt_pw (dw_or (dt_not (dt_val (de_callK C__law_alike tk hr (by decide) rfl (da_cons (de_callK C_words_of tk hr (by decide) rfl (da_cons (de_V (pv 2)) da_nil)) (da_cons (de_callT o_tuple rfl M.b_tuple bt_tuple (da_cons (de_lz rfl rfl M.b_list rfl M.b_zip (da_cons (de_V (pv 4)) (da_cons (de_V (pv 5)) da_nil))) da_nil)) da_nil))))) (dw_or1 (dt_cmp (o_ne hr.units) (de_lc (own := [("word", 9)]) rfl S.nd (di_val (de_V (pv 4))) (blkOk_by (by rfl)) (fun _ _ _ _ _ => (pg_name S.nd (i := 9) rfl (Or.inl rfl))) gt_name rfl (fun _ _ _ _ _ => (dts_one (dt_cmp (o_ne hr.units) (de_callK C_is_count takes0 hr (by decide) rfl (da_cons (de_V (pv 9)) da_nil)) (de_callK C__law_is_count takes0 hr (by decide) rfl (da_cons (de_V (pv 9)) da_nil)) (nomark _)))) (fun _ _ _ _ _ => de_int)) (de_lst da_nil) (nomark _)))))
(ds_one (ds_ret de_bool))
ds_nil) <|
(ds_seq (ds_par (ps_par (i := 6) (j := 7) rfl S.nd rfl rfl (by decide) rfl rfl (da_cons (de_new C_Words___init__ tk hr (by decide) rfl (da_cons (de_V (pv 2)) (da_cons (de_V (pv 3)) da_nil))) (da_cons de_int da_nil)) (by with_unfolding_all rfl))) <|
(ds_seq (ds_for hp rfl (di_ran1 rfl M.b_range (da_cons (de_bin o_add (de_callB c_len rfl M.b_len bt_len (da_cons (de_V (pv 4)) da_nil)) de_int) da_nil)) (pg_name S.nd (i := 8) rfl (Or.inl rfl)) gt_name
(ds_seq (ds_set (ps_set (i := 9) S.nd rfl (Or.inl rfl) (de_if (dt_cmp o_lt (de_V (pv 7)) (de_callB c_len rfl M.b_len bt_len (da_cons (de_V (pv 4)) da_nil)) (nomark _)) (de_ix i_ix (de_V (pv 4)) (de_V (pv 7)) (fun _ _ => rfl)) de_none))) <|
(ds_seq (ds_if (dt_cmp (o_ne hr.units) (de_me0 (k := 1) (km_cons C_Words_peek (by decide) km_nil) tk hr (by decide) (de_V (pv 6))) (de_V (pv 9)) (nomark _))
(ds_one (ds_ret de_bool))
ds_nil) <|
(ds_seq (ds_par (ps_par (i := 10) (j := 11) rfl S.nd rfl rfl (by decide) rfl rfl (da_cons (de_callK C__law_take tk hr (by decide) rfl (da_cons (de_V (pv 0)) (da_cons de_int da_nil))) (da_cons (de_callK C__law_some tk hr (by decide) rfl (da_cons (de_V (pv 0)) (da_cons (de_bin o_add (de_V (pv 4)) (de_lst (da_cons de_str da_nil))) da_nil))) da_nil)) (by with_unfolding_all rfl))) <|
(ds_seq (ds_set (ps_set (i := 12) S.nd rfl (Or.inl rfl) (de_and (de_cmp o_nn (de_V (pv 9)) de_none (nomark _)) (de_and (de_or (de_cmp (o_ne hr.units) (de_V (pv 10)) de_int (nomark _)) (de_one (de_callK C__law_is_name tk hr (by decide) rfl (da_cons (de_V (pv 9)) da_nil)))) (de_and (de_or (de_cmp (o_ne hr.units) (de_V (pv 10)) de_int (nomark _)) (de_one (de_callK C__law_is_count tk hr (by decide) rfl (da_cons (de_V (pv 9)) da_nil)))) (de_and (de_or (de_cmp (o_ne hr.units) (de_V (pv 10)) de_int (nomark _)) (de_one (de_cmp (o_eq hr.units) (de_V (pv 9)) (de_V (pv 11)) (nomark _)))) (de_one (de_cmp (o_ne hr.units) (de_V (pv 10)) de_int (nomark _))))))))) <|
(ds_one (ds_try rfl rfl S.nd tk M.sub (fun W pn xe tk hp => (ds_seq (ds_set (ps_set (i := 13) S.nd rfl (Or.inl rfl) (de_callK C__law_taken tk hr (by decide) rfl (da_cons (de_V (pv 6)) (da_cons (de_V (pv 10)) (da_cons (de_V (pv 11)) da_nil)))))) <|
(ds_seq (ds_set (ps_set (i := 14) S.nd rfl (Or.inl rfl) (de_if (dt_pw (dw_and (dt_cmp (o_eq hr.units) (de_V (pv 10)) de_int (nomark _)) (dw_and1 (dt_val (de_V (pv 12)))))) (de_callT o_intA rfl M.b_int bt_int (da_cons (de_V (pv 9)) da_nil)) (de_if (dt_cmp (o_eq hr.units) (de_V (pv 10)) de_int (nomark _)) de_none (de_V (pv 9)))))) <|
(ds_seq (ds_if (dt_pw (dw_or (dt_not (dt_val (de_V (pv 12)))) (dw_or1 (dt_not (dt_val (de_callK C__law_alike tk hr (by decide) rfl (da_cons (de_V (pv 13)) (da_cons (de_V (pv 14)) da_nil))))))))
(ds_one (ds_ret de_bool))
ds_nil) <|
(ds_one (ds_aug (i := 7) a_add S.nd rfl (Or.inl rfl) de_int)))))) (HdsD.named (i := 15) rfl (by decide) M.k_BadText rfl rfl (fun a oe cls d pn hz hf => hs_x M.k_BadText.ns fun x =>
(xs_if (dt_pw (xw_or (xt_of (dt_val (de_V (pv 12)))) (xw_or1 (xt_cmp (o_ne hr.units) (xe_tup (xa_cons (xe_lf (n := "e") (f := "line") M.k_BadText.xf (M.k_BadText.no "line" (by decide)) hz hf rfl (Or.inl rfl)) (xa_cons (xe_lf (n := "e") (f := "column") M.k_BadText.xf (M.k_BadText.no "column" (by decide)) hz hf rfl (Or.inl rfl)) xa_nil))) (xe_of (de_tup (da_cons (de_V (pv 3)) (da_cons (de_if (dt_cmp o_lt (de_V (pv 7)) (de_callB c_len rfl M.b_len bt_len (da_cons (de_V (pv 4)) da_nil)) (nomark _)) (de_ix i_ix (de_V (pv 5)) (de_V (pv 7)) (fun _ _ => rfl)) (de_bin o_add (de_callB c_len rfl M.b_len bt_len (da_cons (de_V (pv 2)) da_nil)) de_int)) da_nil)))) (nomark _)))))
(xss_of (ds_one (ds_ret de_bool)))
(xss_of ds_nil))) HdsD.nil)))))))) <|
(ds_one (ds_try rfl rfl S.nd tk M.sub (fun W pn xe tk hp => (ds_seq (ds_expr (de_me0 (k := 4) (km_cons C_Words_close (by decide) km_nil) tk hr (by decide) (de_V (pv 6)))) <|
(ds_one (ds_ret (de_cmp o_ge (de_V (pv 7)) (de_callB c_len rfl M.b_len bt_len (da_cons (de_V (pv 4)) da_nil)) (nomark _)))))) (HdsD.named (i := 15) rfl (by decide) M.k_BadText rfl rfl (fun a oe cls d pn hz hf => hs_x M.k_BadText.ns fun x =>
(xs_ret (xe_and (xe_of (de_cmp o_lt (de_V (pv 7)) (de_callB c_len rfl M.b_len bt_len (da_cons (de_V (pv 4)) da_nil)) (nomark _))) (xe_one (xe_cmp (o_eq hr.units) (xe_tup (xa_cons (xe_lf (n := "e") (f := "line") M.k_BadText.xf (M.k_BadText.no "line" (by decide)) hz hf rfl (Or.inl rfl)) (xa_cons (xe_lf (n := "e") (f := "column") M.k_BadText.xf (M.k_BadText.no "column" (by decide)) hz hf rfl (Or.inl rfl)) xa_nil))) (xe_of (de_tup (da_cons (de_V (pv 3)) (da_cons (de_ix i_ix (de_V (pv 5)) (de_V (pv 7)) (fun _ _ => rfl)) da_nil)))) (nomark _)))))) HdsD.nil)))))))))))
theorem sc_law : FnScope ["script", "bag", "turn"] ["script"] (defScope s_law) := ⟨rfl, rfl, rfl, by decide +kernel, rfl, by decide +kernel, by decide +kernel⟩
theorem fo_law {f : Addr} {fd : FuncData} (M : Mo K mg) (F : FunD K "law" "law" (defArgs s_law) (defBody s_law) (defScope s_law) [] [] f fd) (C__law_bag : Kn P w K mg base 1 1 "_law_bag" ["script"] N__law_bag) (C__law_are_words_right : Kn P w K mg base 6 1 "_law_are_words_right" ["bag"] N__law_are_words_right) (C_is_count : Kn P w K mg base 1 1 "is_count" ["word"] N_is_count) : FnG P w K mg base (L2.CX P w) 7 f fd ["script"] (spD ⟨K, w⟩ 1 N_law) := by
  have S := sc_law
  unfold N_law
  exact (d_fnG F S rfl rfl fun cdv A outer s H E hgd hr tk hp =>
(ds_seq (ds_set (ps_set (i := 1) S.nd rfl (Or.inl rfl) (de_callK C__law_bag tk hr (by decide) rfl (da_cons (de_V (pv 0)) da_nil)))) <|
(ds_seq (ds_for hp rfl (di_ran1 rfl M.b_range (da_cons de_int da_nil)) (pg_name S.nd (i := 2) rfl (Or.inl rfl)) gt_name
(ds_one (ds_if (dt_not (dt_val (de_callK C__law_are_words_right tk hr (by decide) rfl (da_cons (de_V (pv 1)) da_nil))))
(ds_one (ds_ret de_bool))
ds_nil))) <|
(ds_one (ds_ret (de_and (de_cmp o_isB (de_callK C_is_count tk hr (by decide) rfl (da_cons de_str da_nil)) de_bool (nomark _)) (de_and (de_cmp o_isB (de_callK C_is_count tk hr (by decide) rfl (da_cons de_str da_nil)) de_bool (nomark _)) (de_one (de_cmp o_isB (de_callK C_is_count tk hr (by decide) rfl (da_cons de_str da_nil)) de_bool (nomark _))))))))))
end
def dd_Words___init__ : He.DefD := ⟨("Words", some "__init__"), "__init__", "Words.__init__", defArgs s_Words___init__, defBody s_Words___init__, defScope s_Words___init__, [], []⟩
def dd_Words_peek : He.DefD := ⟨("Words", some "peek"), "peek", "Words.peek", defArgs s_Words_peek, defBody s_Words_peek, defScope s_Words_peek, [], []⟩
def dd_Words_need : He.DefD := ⟨("Words", some "need"), "need", "Words.need", defArgs s_Words_need, defBody s_Words_need, defScope s_Words_need, [], []⟩
def dd_Words_close : He.DefD := ⟨("Words", some "close"), "close", "Words.close", defArgs s_Words_close, defBody s_Words_close, defScope s_Words_close, [], []⟩
def dd_Words_a_name : He.DefD := ⟨("Words", some "a_name"), "a_name", "Words.a_name", defArgs s_Words_a_name, defBody s_Words_a_name, defScope s_Words_a_name, [], []⟩
def dd_Words_number : He.DefD := ⟨("Words", some "number"), "number", "Words.number", defArgs s_Words_number, defBody s_Words_number, defScope s_Words_number, [], []⟩
def dd_Words_mark : He.DefD := ⟨("Words", some "mark"), "mark", "Words.mark", defArgs s_Words_mark, defBody s_Words_mark, defScope s_Words_mark, [], []⟩
def dd__law_bag : He.DefD := ⟨("_law_bag", none), "_law_bag", "_law_bag", defArgs s__law_bag, defBody s__law_bag, defScope s__law_bag, [], []⟩
def dd_words_of : He.DefD := ⟨("words_of", none), "words_of", "words_of", defArgs s_words_of, defBody s_words_of, defScope s_words_of, [], []⟩
def dd__law_take : He.DefD := ⟨("_law_take", none), "_law_take", "_law_take", defArgs s__law_take, defBody s__law_take, defScope s__law_take, [], []⟩
def dd__law_alike : He.DefD := ⟨("_law_alike", none), "_law_alike", "_law_alike", defArgs s__law_alike, defBody s__law_alike, defScope s__law_alike, [], []⟩
def dd__law_some : He.DefD := ⟨("_law_some", none), "_law_some", "_law_some", defArgs s__law_some, defBody s__law_some, defScope s__law_some, [], []⟩
def dd_is_name : He.DefD := ⟨("is_name", none), "is_name", "is_name", defArgs s_is_name, defBody s_is_name, defScope s_is_name, [], []⟩
def dd_is_count : He.DefD := ⟨("is_count", none), "is_count", "is_count", defArgs s_is_count, defBody s_is_count, defScope s_is_count, [], []⟩
def dd__law_taken : He.DefD := ⟨("_law_taken", none), "_law_taken", "_law_taken", defArgs s__law_taken, defBody s__law_taken, defScope s__law_taken, [], []⟩
def dd__law_is_name : He.DefD := ⟨("_law_is_name", none), "_law_is_name", "_law_is_name", defArgs s__law_is_name, defBody s__law_is_name, defScope s__law_is_name, [], []⟩
def dd__law_is_count : He.DefD := ⟨("_law_is_count", none), "_law_is_count", "_law_is_count", defArgs s__law_is_count, defBody s__law_is_count, defScope s__law_is_count, [], []⟩
def dd__law_are_words_right : He.DefD := ⟨("_law_are_words_right", none), "_law_are_words_right", "_law_are_words_right", defArgs s__law_are_words_right, defBody s__law_are_words_right, defScope s__law_are_words_right, [], []⟩
def dd_law : He.DefD := ⟨("law", none), "law", "law", defArgs s_law, defBody s_law, defScope s_law, [], []⟩
def fnl : List He.DefD := [dd__law_bag, dd_words_of, dd__law_take, dd__law_alike, dd__law_some, dd_is_name, dd_is_count, dd__law_taken, dd__law_is_name, dd__law_is_count, dd__law_are_words_right, dd_law, dd_Words___init__, dd_Words_peek, dd_Words_need, dd_Words_close, dd_Words_a_name, dd_Words_number, dd_Words_mark]
def fal : List He.Fa := [.glo "_law_bag", .glo "words_of", .glo "_law_take", .glo "_law_alike", .glo "_law_some", .glo "is_name", .glo "is_count", .glo "_law_taken", .glo "_law_is_name", .glo "_law_is_count", .glo "_law_are_words_right", .glo "law", .free "abs", .free "all", .free "bool", .free "int", .free "isinstance", .free "len", .free "list", .free "range", .free "str", .free "sum", .free "super", .free "tuple", .free "zip", .cls "Words", .glo "Words", .mkr "Words", .meth "Words" "peek", .meth "Words" "need", .meth "Words" "close", .meth "Words" "a_name", .meth "Words" "number", .meth "Words" "mark", .noat "Words" "its_words", .noat "Words" "its_at", .noat "Words" "its_number", .noat "Words" "its_end"]
def csl : List (Str × PyData) := [("DIGITS", d_DIGITS), ("LETTERS", d_LETTERS), ("MOST_DIGITS", d_MOST_DIGITS), ("MOST_NAME", d_MOST_NAME), ("RESERVED", d_RESERVED)]
def edl : List ErD := [dE_BadText]
def ecl : List (Str × List Str) := [("BadText", ["column", "line"])]
theorem mo_of {K : PySem.W.Frag} {h : Heap} {mg : Str → Option Value} {file : Str} (X : K.In h) (G : h.Ns mainGlobals mg) (c : SaysR file fal fnl csl edl ecl sbl K) : Mo K mg :=
  ⟨He.free_ok X G (c.d.fact 12 (f := .free "abs") rfl), He.free_ok X G (c.d.fact 13 (f := .free "all") rfl), He.free_ok X G (c.d.fact 14 (f := .free "bool") rfl), He.free_ok X G (c.d.fact 15 (f := .free "int") rfl), He.free_ok X G (c.d.fact 16 (f := .free "isinstance") rfl), He.free_ok X G (c.d.fact 17 (f := .free "len") rfl), He.free_ok X G (c.d.fact 18 (f := .free "list") rfl), He.free_ok X G (c.d.fact 19 (f := .free "range") rfl), He.free_ok X G (c.d.fact 20 (f := .free "str") rfl), He.free_ok X G (c.d.fact 21 (f := .free "sum") rfl), He.free_ok X G (c.d.fact 22 (f := .free "super") rfl), He.free_ok X G (c.d.fact 23 (f := .free "tuple") rfl), He.free_ok X G (c.d.fact 24 (f := .free "zip") rfl), SaysR.con X G c 0 (x := "DIGITS") (d := d_DIGITS), SaysR.con X G c 1 (x := "LETTERS") (d := d_LETTERS), SaysR.con X G c 2 (x := "MOST_DIGITS") (d := d_MOST_DIGITS), SaysR.con X G c 3 (x := "MOST_NAME") (d := d_MOST_NAME), SaysR.con X G c 4 (x := "RESERVED") (d := d_RESERVED), (clF_cons (c.d.fact 25 (f := .cls "Words") rfl) (c.d.fact 34 (f := .noat "Words" "its_words") rfl) (clF_nil)), (clF_cons (c.d.fact 25 (f := .cls "Words") rfl) (c.d.fact 35 (f := .noat "Words" "its_at") rfl) (clF_nil)), (clF_cons (c.d.fact 25 (f := .cls "Words") rfl) (c.d.fact 36 (f := .noat "Words" "its_number") rfl) (clF_nil)), (clF_cons (c.d.fact 25 (f := .cls "Words") rfl) (c.d.fact 37 (f := .noat "Words" "its_end") rfl) (clF_nil)), SaysR.ecf X G c 0, subK_of c.s⟩
theorem df__law_bag {K : PySem.W.Frag} {h : Heap} {mg : Str → Option Value} {file : Str} (X : K.In h) (G : h.Ns mainGlobals mg) (c : SaysR file fal fnl csl edl ecl sbl K) : Df K mg "_law_bag" s__law_bag := by
  obtain ⟨fd, F⟩ := c.d.def_ 0 (d := dd__law_bag) rfl
  exact ⟨_, fd, He.glo_ok X G (c.d.fact 0 (f := .glo "_law_bag") rfl), F⟩
theorem df_words_of {K : PySem.W.Frag} {h : Heap} {mg : Str → Option Value} {file : Str} (X : K.In h) (G : h.Ns mainGlobals mg) (c : SaysR file fal fnl csl edl ecl sbl K) : Df K mg "words_of" s_words_of := by
  obtain ⟨fd, F⟩ := c.d.def_ 1 (d := dd_words_of) rfl
  exact ⟨_, fd, He.glo_ok X G (c.d.fact 1 (f := .glo "words_of") rfl), F⟩
theorem df__law_take {K : PySem.W.Frag} {h : Heap} {mg : Str → Option Value} {file : Str} (X : K.In h) (G : h.Ns mainGlobals mg) (c : SaysR file fal fnl csl edl ecl sbl K) : Df K mg "_law_take" s__law_take := by
  obtain ⟨fd, F⟩ := c.d.def_ 2 (d := dd__law_take) rfl
  exact ⟨_, fd, He.glo_ok X G (c.d.fact 2 (f := .glo "_law_take") rfl), F⟩
theorem df__law_alike {K : PySem.W.Frag} {h : Heap} {mg : Str → Option Value} {file : Str} (X : K.In h) (G : h.Ns mainGlobals mg) (c : SaysR file fal fnl csl edl ecl sbl K) : Df K mg "_law_alike" s__law_alike := by
  obtain ⟨fd, F⟩ := c.d.def_ 3 (d := dd__law_alike) rfl
  exact ⟨_, fd, He.glo_ok X G (c.d.fact 3 (f := .glo "_law_alike") rfl), F⟩
theorem df__law_some {K : PySem.W.Frag} {h : Heap} {mg : Str → Option Value} {file : Str} (X : K.In h) (G : h.Ns mainGlobals mg) (c : SaysR file fal fnl csl edl ecl sbl K) : Df K mg "_law_some" s__law_some := by
  obtain ⟨fd, F⟩ := c.d.def_ 4 (d := dd__law_some) rfl
  exact ⟨_, fd, He.glo_ok X G (c.d.fact 4 (f := .glo "_law_some") rfl), F⟩
theorem df_is_name {K : PySem.W.Frag} {h : Heap} {mg : Str → Option Value} {file : Str} (X : K.In h) (G : h.Ns mainGlobals mg) (c : SaysR file fal fnl csl edl ecl sbl K) : Df K mg "is_name" s_is_name := by
  obtain ⟨fd, F⟩ := c.d.def_ 5 (d := dd_is_name) rfl
  exact ⟨_, fd, He.glo_ok X G (c.d.fact 5 (f := .glo "is_name") rfl), F⟩
theorem df_is_count {K : PySem.W.Frag} {h : Heap} {mg : Str → Option Value} {file : Str} (X : K.In h) (G : h.Ns mainGlobals mg) (c : SaysR file fal fnl csl edl ecl sbl K) : Df K mg "is_count" s_is_count := by
  obtain ⟨fd, F⟩ := c.d.def_ 6 (d := dd_is_count) rfl
  exact ⟨_, fd, He.glo_ok X G (c.d.fact 6 (f := .glo "is_count") rfl), F⟩
theorem df__law_taken {K : PySem.W.Frag} {h : Heap} {mg : Str → Option Value} {file : Str} (X : K.In h) (G : h.Ns mainGlobals mg) (c : SaysR file fal fnl csl edl ecl sbl K) : Df K mg "_law_taken" s__law_taken := by
  obtain ⟨fd, F⟩ := c.d.def_ 7 (d := dd__law_taken) rfl
  exact ⟨_, fd, He.glo_ok X G (c.d.fact 7 (f := .glo "_law_taken") rfl), F⟩
theorem df__law_is_name {K : PySem.W.Frag} {h : Heap} {mg : Str → Option Value} {file : Str} (X : K.In h) (G : h.Ns mainGlobals mg) (c : SaysR file fal fnl csl edl ecl sbl K) : Df K mg "_law_is_name" s__law_is_name := by
  obtain ⟨fd, F⟩ := c.d.def_ 8 (d := dd__law_is_name) rfl
  exact ⟨_, fd, He.glo_ok X G (c.d.fact 8 (f := .glo "_law_is_name") rfl), F⟩
theorem df__law_is_count {K : PySem.W.Frag} {h : Heap} {mg : Str → Option Value} {file : Str} (X : K.In h) (G : h.Ns mainGlobals mg) (c : SaysR file fal fnl csl edl ecl sbl K) : Df K mg "_law_is_count" s__law_is_count := by
  obtain ⟨fd, F⟩ := c.d.def_ 9 (d := dd__law_is_count) rfl
  exact ⟨_, fd, He.glo_ok X G (c.d.fact 9 (f := .glo "_law_is_count") rfl), F⟩
theorem df__law_are_words_right {K : PySem.W.Frag} {h : Heap} {mg : Str → Option Value} {file : Str} (X : K.In h) (G : h.Ns mainGlobals mg) (c : SaysR file fal fnl csl edl ecl sbl K) : Df K mg "_law_are_words_right" s__law_are_words_right := by
  obtain ⟨fd, F⟩ := c.d.def_ 10 (d := dd__law_are_words_right) rfl
  exact ⟨_, fd, He.glo_ok X G (c.d.fact 10 (f := .glo "_law_are_words_right") rfl), F⟩
theorem df_Words___init__ {K : PySem.W.Frag} {h : Heap} {mg : Str → Option Value} {file : Str} (X : K.In h) (G : h.Ns mainGlobals mg) (c : SaysR file fal fnl csl edl ecl sbl K) : DfC K mg "Words" "Words.__init__" s_Words___init__ :=
  ⟨He.glo_ok X G (c.d.fact 26 (f := .glo "Words") rfl), He.eqO_ok (c.d.fact 26 (f := .glo "Words") rfl), He.mkr_ok (c.d.fact 27 (f := .mkr "Words") rfl), c.d.def_ 12 (d := dd_Words___init__) rfl⟩
theorem df_Words_peek {K : PySem.W.Frag} {h : Heap} {mg : Str → Option Value} {file : Str} (X : K.In h) (G : h.Ns mainGlobals mg) (c : SaysR file fal fnl csl edl ecl sbl K) : DfM K "Words" "peek" "Words.peek" s_Words_peek :=
  ⟨He.cls_ok (c.d.fact 25 (f := .cls "Words") rfl), He.meth_ok (c.d.fact 28 (f := .meth "Words" "peek") rfl), c.d.def_ 13 (d := dd_Words_peek) rfl⟩
theorem df_Words_need {K : PySem.W.Frag} {h : Heap} {mg : Str → Option Value} {file : Str} (X : K.In h) (G : h.Ns mainGlobals mg) (c : SaysR file fal fnl csl edl ecl sbl K) : DfM K "Words" "need" "Words.need" s_Words_need :=
  ⟨He.cls_ok (c.d.fact 25 (f := .cls "Words") rfl), He.meth_ok (c.d.fact 29 (f := .meth "Words" "need") rfl), c.d.def_ 14 (d := dd_Words_need) rfl⟩
theorem df_Words_close {K : PySem.W.Frag} {h : Heap} {mg : Str → Option Value} {file : Str} (X : K.In h) (G : h.Ns mainGlobals mg) (c : SaysR file fal fnl csl edl ecl sbl K) : DfM K "Words" "close" "Words.close" s_Words_close :=
  ⟨He.cls_ok (c.d.fact 25 (f := .cls "Words") rfl), He.meth_ok (c.d.fact 30 (f := .meth "Words" "close") rfl), c.d.def_ 15 (d := dd_Words_close) rfl⟩
theorem df_Words_a_name {K : PySem.W.Frag} {h : Heap} {mg : Str → Option Value} {file : Str} (X : K.In h) (G : h.Ns mainGlobals mg) (c : SaysR file fal fnl csl edl ecl sbl K) : DfM K "Words" "a_name" "Words.a_name" s_Words_a_name :=
  ⟨He.cls_ok (c.d.fact 25 (f := .cls "Words") rfl), He.meth_ok (c.d.fact 31 (f := .meth "Words" "a_name") rfl), c.d.def_ 16 (d := dd_Words_a_name) rfl⟩
theorem df_Words_number {K : PySem.W.Frag} {h : Heap} {mg : Str → Option Value} {file : Str} (X : K.In h) (G : h.Ns mainGlobals mg) (c : SaysR file fal fnl csl edl ecl sbl K) : DfM K "Words" "number" "Words.number" s_Words_number :=
  ⟨He.cls_ok (c.d.fact 25 (f := .cls "Words") rfl), He.meth_ok (c.d.fact 32 (f := .meth "Words" "number") rfl), c.d.def_ 17 (d := dd_Words_number) rfl⟩
theorem df_Words_mark {K : PySem.W.Frag} {h : Heap} {mg : Str → Option Value} {file : Str} (X : K.In h) (G : h.Ns mainGlobals mg) (c : SaysR file fal fnl csl edl ecl sbl K) : DfM K "Words" "mark" "Words.mark" s_Words_mark :=
  ⟨He.cls_ok (c.d.fact 25 (f := .cls "Words") rfl), He.meth_ok (c.d.fact 33 (f := .meth "Words" "mark") rfl), c.d.def_ 18 (d := dd_Words_mark) rfl⟩
end K02
set_option Elab.async false
set_option linter.all false
set_option maxRecDepth 100000
set_option maxHeartbeats 0
namespace K02
open PySem PySem.Spec PyProof.Rows L2 DL
abbrev RR : PySem.W.OpenRow := PySem.W.OpenLaw.row PySem.Challenge.rw_leastdoubt_k02_words_of_lines_one_by_one
abbrev PP : Program := (PySem.Challenge.rw_leastdoubt_k02_words_of_lines_one_by_one).prog
def fil : Str := PP.main.file
abbrev hk : PySem.W.Hook := hookT fil 5 fal fnl csl edl ecl sbl lml
def ob (s : PySem.W.SharedT) : AlT := obsT fil 5 fal fnl csl edl ecl sbl lml (HandSHeadRun.getT s)
theorem ob_eq (s : PySem.W.SharedT) : ob s = hk.obs s.abs := obsT_eq (HandSHeadRun.getT_eq s)
def loose0 : List Str := ["_wall", "DoubtError", "BadText", "LETTERS", "RESERVED", "MOST_NAME", "is_name", "DIGITS", "MOST_DIGITS", "words_of", "is_count", "Words", "_law_bag", "_law_take", "_law_some", "_law_alike", "_law_is_name", "_law_is_count", "_law_taken", "_law_are_words_right"]
theorem run (w : World) : HandSHeadRun.RunEq RR (PySem.W.view RR.prog [24]) hk ob 4000 (loose0) w := by
  intro os
  kernel_rfl
theorem facts {w : World} {K : PySem.W.Frag} {h : Heap} {mg : Str → Option Value} {f : Addr} (X : K.In h) (G : h.Ns mainGlobals mg) (hfa : mg ("law" : Str) = some (.ref f)) (c0 : SaysT PP.main.file fal fnl csl edl ecl sbl lml K h) :
    ∃ fd : FuncData, (∀ (s : Shared) (v : Value), BindsTo s fd ⟨[v], []⟩ [("script", v)]) ∧ ∀ base : Heap, K.In base → base.Ns mainGlobals mg → (∀ y ∈ tll.map (·.1), LamX.TabB base mg (codeA K y) (tabA K y)) → FnG PP w K mg base (L2.CX PP w) 7 f fd ["script"] (spD ⟨K, w⟩ 1 N_law) := by
  have c := c0.r
  have M := mo_of X G c
  obtain ⟨fd0, F0⟩ := c.d.def_ 11 (d := dd_law) rfl
  have e0 := hfa.symm.trans (He.glo_ok X G (c.d.fact 11 (f := .glo "law") rfl))
  cases e0
  have b0 := FunD.bindsA (ps := ["script"]) F0 fun _ _ _ _ _ _ us hl => match us, hl with | [_], _ => rfl
  refine ⟨fd0, fun s v => b0 s [v] rfl, fun base _ _ hT => ?_⟩
  have E_BadText := er_BadText (w := w) (base := base) (SaysR.err (P := PP) X G c M.b_super (by decide +kernel) 0 (d := dE_BadText) rfl)
  have C__law_bag := ok__law_bag (P := PP) (w := w) (base := base) M (df__law_bag X G c)
  have C_words_of := ok_words_of (P := PP) (w := w) (base := base) M (df_words_of X G c)
  have C_Words___init__ := ok_Words___init__ (P := PP) (w := w) (base := base) M (df_Words___init__ X G c) C_words_of
  have C_Words_peek := ok_Words_peek (P := PP) (w := w) (base := base) M (df_Words_peek X G c)
  have C_Words_need := ok_Words_need (P := PP) (w := w) (base := base) M (df_Words_need X G c) C_Words_peek E_BadText
  have C_Words_close := ok_Words_close (P := PP) (w := w) (base := base) M (df_Words_close X G c) C_Words_peek C_Words_need
  have C__law_take := ok__law_take (P := PP) (w := w) (base := base) M (df__law_take X G c)
  have C__law_alike := ok__law_alike (P := PP) (w := w) (base := base) M (df__law_alike X G c)
  have C__law_some := ok__law_some (P := PP) (w := w) (base := base) M (df__law_some X G c) C__law_take
  have C_is_name := ok_is_name (P := PP) (w := w) (base := base) M (df_is_name X G c)
  have C_Words_a_name := ok_Words_a_name (P := PP) (w := w) (base := base) M (df_Words_a_name X G c) C_Words_need C_Words_peek C_is_name
  have C_is_count := ok_is_count (P := PP) (w := w) (base := base) M (df_is_count X G c)
  have C_Words_number := ok_Words_number (P := PP) (w := w) (base := base) M (df_Words_number X G c) C_Words_need C_Words_peek C_is_count
  have C_Words_mark := ok_Words_mark (P := PP) (w := w) (base := base) M (df_Words_mark X G c) C_Words_need C_Words_peek
  have C__law_taken := ok__law_taken (P := PP) (w := w) (base := base) M (df__law_taken X G c) C_Words_a_name C_Words_number C_Words_mark C_Words_need
  have C__law_is_name := ok__law_is_name (P := PP) (w := w) (base := base) M (df__law_is_name X G c)
  have C__law_is_count := ok__law_is_count (P := PP) (w := w) (base := base) M (df__law_is_count X G c)
  have C__law_are_words_right := ok__law_are_words_right (P := PP) (w := w) (base := base) M (df__law_are_words_right X G c) C_Words___init__ C_Words_close C_Words_peek C__law_take C__law_alike C__law_some C__law_taken C_words_of C__law_is_name C__law_is_count C_is_count
  exact fo_law M F0 C__law_bag C__law_are_words_right C_is_count
end K02
open PySem PySem.W PySem.Calls PyProof.Rows
theorem PySem.Challenge.cw_leastdoubt_k02_words_of_lines_one_by_one_holds : PySem.Challenge.rw_leastdoubt_k02_words_of_lines_one_by_one.Holds := by
  w_on; o_law
  refine HandSHeadRun.head_any (r := OpenLaw.row PySem.Challenge.rw_leastdoubt_k02_words_of_lines_one_by_one) (q := view (OpenLaw.row PySem.Challenge.rw_leastdoubt_k02_words_of_lines_one_by_one).prog [24]) (H := K02.hk) (ob := K02.ob) (M := 4000) (loose := (K02.loose0)) (d := HandSHeadRun.topDef (OpenLaw.row PySem.Challenge.rw_leastdoubt_k02_words_of_lines_one_by_one).prog 24) (kwd := []) K02.ob_eq
    (by kernel_rfl) (fun s => by kernel_rfl) K02.run (by kernel_rfl) (by kernel_rfl) (by kernel_rfl) (by rfl) (by first | assumption | decide +kernel) (by decide +kernel) ⟨rfl, rfl, rfl, rfl, rfl, by decide +kernel⟩ ?hw ?hc
  case hw => w_witness2
  case hc =>
    refine DL.walk_TG (l := PySem.Challenge.rw_leastdoubt_k02_words_of_lines_one_by_one) (n := 63) (k := 7) (x := "script") (F := K02.N_law) (tl := K02.tll) rfl (by decide) (by kernel_rfl) ⟨rfl, by decide, by decide⟩ ?F fun ns hn => K02.pure_law ns hn
    intro w mg fa h Y G hmg0
    obtain ⟨K, KX, c⟩ := Y
    have hmg : mg ("law" : PySem.Str) = some (.ref fa) := by
      have e : (HandSHeadRun.topDef (OpenLaw.row PySem.Challenge.rw_leastdoubt_k02_words_of_lines_one_by_one).prog 24).name = ("law" : PySem.Str) := by kernel_rfl
      rw [← e]
      exact hmg0
    obtain ⟨fd, hb, hF⟩ := K02.facts (w := w) KX G hmg c
    exact ⟨K, fd, KX, c.l, c.n, c.t, hb, hF⟩
