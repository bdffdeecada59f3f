import PyProof.Rows.All
import Wide.All
import OpenK.AllK
import Wide.FinOn
import PySem.Challenge.RW_heaprows_k09_whole_anew
import HandS.ForMost
import HandS.Slots
import HandS.Lambda
import HandS.Head0
import HandS.Head1
import HandS.Head2
import HandS.HeadEnd
import HandS.HeadHook1
import HandS.HeadHook2
import HandS.HeadHook4
import HandS.HeadWalk
import HandS.HeadNt
import HandS.Property
import HandS.TupAny
import HandS.Deep
import HandS.Wide
import HandS.SetFor
import HandS.Conv
import HandS.More
import HandS.Style
import HandS.Zip
import HandS.Iter
import KE.GoesMore
import KE.GoesZip
import HandS.Defaults
import HandS.MakeKwOnly
import HandS.SlotsOwn
import KE.SortData
import HandS.SortInts
import HandS.IsInst
import PyProof.InstNe
import HandS.IterVal
import HandS.Star
import HandS.OwnIter
import HandS.Strs
import PyProof.RulesMatch
import HandS.TupLe
import KE.DataMinKey
import HandS.OwnEq
import KE.DataMinMax
import HandS.NoneIn
import HandS.ClsMeth
import HandS.CallLocal
import HandS.Dict
import HandS.DictComp
import HandS.TupLen
import HandS.WordsDict
import KE.KDictList
import HandS.ListItems
import KE.KSortTup
import HandS.NamedTupSort
import KE.KDictZip
import KE.KEqDict
import PyProof.P3Eq
set_option Elab.async false
set_option linter.all false
set_option maxRecDepth 100000
set_option maxHeartbeats 4000000
namespace Ev
open PySem PySem.Spec PyProof.Rows L2
/-- built-in types that the text names -/
inductive Ty where
  | non | bl | int | str | tup | lst | dct | flt
def Ty.nm : Ty → String
  | .non => "NoneType"
  | .bl => "bool"
  | .int => "int"
  | .str => "str"
  | .tup => "tuple"
  | .lst => "list"
  | .dct => "dict"
  | .flt => "float"
def memB (c : Nat) : List Nat → Bool
  | [] => false
  | d :: r => match Nat.beq c d with
    | true => true
    | false => memB c r
structure ClsD where
  nm : Str
  slots : List Str
  meths : List Str
  vars : List Str := []
  cms : List Str := []
  prs : List Str := []
def fcK (cd : Nat → ClsD) (K : PySem.W.Frag) : Nat → Addr := fun c => He.ga K (cd c).nm
/-- the def of a wrapped one: a class method's, a property's -/
def wAd (K : PySem.W.Frag) (T : String) (p : Str × Option Str) : Addr := match p.2 with
  | some m => He5.wf K (He.ga K p.1) T m
  | none => 0
/-- defs; from 1000 on: tables of code objects; from 2000 on: class methods; from 3000 on: properties -/
def faK (fnm : Nat → Str × Option Str) (K : PySem.W.Frag) : Nat → Addr := fun i => match Nat.ble 1000 i with
  | false => He.fAd K (fnm i)
  | true => (match Nat.ble 2000 i with
    | false => (He.cT K (fnm i)).2
    | true => (match Nat.ble 3000 i with
      | false => wAd K "classmethod" (fnm i)
      | true => wAd K "property" (fnm i)))
def slotB (K : PySem.W.Frag) (C : Addr) (f : Str) (i : Nat) : Bool :=
  He.eqO (PySem.W.findIn K (.ref C) f) (some (some (.ref (He.ma K C f)))) && (He.eqO (PySem.W.specialIn K (.ref (He.ma K C f)) "__get__") (some (some (.builtin "member_descriptor.__get__"))) &&
  (decide (PySem.W.takesIn K (.ref (He.ma K C f)) = some true) && (decide (PySem.W.typeIn K (.ref (He.ma K C f)) = some (.type "member_descriptor")) && (decide (PySem.W.slotIn K (He.ma K C f) C = some i) && Nat.blt i 1000))))
def slotsB (K : PySem.W.Frag) (C : Addr) : List Str → Nat → Bool
  | [], _ => true
  | f :: r, i => slotB K C f i && slotsB K C r (i + 1)
def methB (K : PySem.W.Frag) (C : Addr) (m : Str) : Bool :=
  He.eqO (PySem.W.findIn K (.ref C) m) (some (some (.ref (He.ma K C m)))) && (PySem.W.isFn K (.ref (He.ma K C m)) && (PySem.W.keepIn K (.ref (He.ma K C m)) && PySem.W.fnIn K (He.ma K C m)))
def allTy : List Ty := [.non, .bl, .int, .str, .tup, .lst, .dct, .flt]
def ClsD.base (K : PySem.W.Frag) (d : ClsD) : Bool :=
  PySem.W.plainGet K (He.ga K d.nm) Str.empty && (PySem.W.isClsIn K (He.ga K d.nm) && (PySem.W.plainOver K (He.ga K d.nm) && He.eqO (PySem.W.findIn K (.ref (He.ga K d.nm)) "__setattr__") (some (some (.builtin "object.__setattr__")))))
def ClsD.isi (K : PySem.W.Frag) (d : ClsD) : Bool :=
  He.eqO (PySem.W.findIn K (.ref (He.ga K d.nm)) "__class__") (some (some (.builtin "object.__class__"))) && (He.eqO (PySem.W.specialIn K (.builtin "object.__class__") "__get__") (some (some (.builtin "getset_descriptor.__get__"))) &&
  (decide (PySem.W.takesIn K (.builtin "object.__class__") = some true) && decide (PySem.W.mroIn K (He.ga K d.nm) (.type "object") = some true)))
def ClsD.eqs (K : PySem.W.Frag) (d : ClsD) : Bool :=
  He.eqO (PySem.W.findIn K (.ref (He.ga K d.nm)) "__ne__") (some (some (.builtin "object.__ne__"))) && (decide (PySem.W.subIn K (.ref (He.ga K d.nm)) (.type "object") = some true) &&
  ((allTy.all fun t => PySem.W.notFirst K (He.ga K d.nm) (.type t.nm)) && allTy.all fun t => decide (PySem.W.kitOne K (.type t.nm) (.ref (He.ga K d.nm)) = some false)))
/-- variables that stand in the instance's dict -/
def varsB (K : PySem.W.Frag) (C : Addr) (vars : List Str) : Bool := match vars with
  | [] => true
  | vars => PySem.W.hasDictIn K C && vars.all fun f => decide (PySem.W.findIn K (.ref C) f = some none)
def cmB (K : PySem.W.Frag) (C : Addr) (m : Str) : Bool := He5.wrapB K C "classmethod" "classmethod.__get__" m && (PySem.W.fnIn K (He5.wf K C "classmethod" m) && (PySem.W.readsIn K C (.type "type") && He.eqO (PySem.W.specialIn K (.ref C) "__getattribute__") (some (some (.builtin "type.__getattribute__")))))
def prB (K : PySem.W.Frag) (C : Addr) (m : Str) : Bool := He.eqO (PySem.W.findIn K (.ref C) m) (some (some (.ref (He.ma K C m)))) && (He.eqO (PySem.W.specialIn K (.ref (He.ma K C m)) "__get__") (some (some (.builtin "property.__get__"))) && (decide (PySem.W.takesIn K (.ref (He.ma K C m)) = some true) && (match PySem.W.recIn K (He.ma K C m) "property" with
  | some (.ref _ :: _) => true
  | _ => false)))
def ClsD.wraps (K : PySem.W.Frag) (d : ClsD) : Bool := (d.cms.all fun m => cmB K (He.ga K d.nm) m) && d.prs.all fun m => prB K (He.ga K d.nm) m
def ClsD.ok0 (K : PySem.W.Frag) (d : ClsD) : Bool := varsB K (He.ga K d.nm) d.vars && (d.base K && (d.isi K && (d.eqs K && (slotsB K (He.ga K d.nm) d.slots 0 && (d.meths.all fun m => methB K (He.ga K d.nm) m)))))
def ClsD.ok (K : PySem.W.Frag) (d : ClsD) : Bool := d.wraps K && d.ok0 K
def pairB (K : PySem.W.Frag) (cd : Nat → ClsD) (c d : Nat) : Bool := decide (PySem.W.kitOne K (.ref (He.ga K (cd c).nm)) (.ref (He.ga K (cd d).nm)) = some (Nat.beq c d)) && PySem.W.notFirst K (He.ga K (cd c).nm) (.ref (He.ga K (cd d).nm))
def chkC (cl : List Nat) (cd : Nat → ClsD) (K : PySem.W.Frag) : Bool := (cl.all fun c => (cd c).ok K) && cl.all fun c => cl.all fun d => pairB K cd c d
abbrev DfX : Type := He5.DefA
abbrev AlX : Type := Bool × He.AlD
def obsX (chk : PySem.W.Frag → Bool) (fa : List He.Fa) (fn : List DfX) (K : PySem.W.Frag) : AlX := (chk K, ((fa.all fun f => f.ok K) && fn.all fun d => d.ok K, fn.map fun d => He5.fnA K (d.at_ K)))
def obsXG (n : Nat) (chk : PySem.W.Frag → Bool) (fa : List He.Fa) (fn : List DfX) (g : Addr → Option Obj) : AlX := obsX chk fa fn (He.frG g ((List.range n).reverse))
def valX (fn : List DfX) : He.AlD := (true, fn.map He5.DefA.val)
def SaysX (chk : PySem.W.Frag → Bool) (fa : List He.Fa) (fn : List DfX) (K : PySem.W.Frag) : Prop := obsX chk fa fn K = (true, valX fn)
def hookX (n : Nat) (chk : PySem.W.Frag → Bool) (fa : List He.Fa) (fn : List DfX) : PySem.W.Hook where
  α := AlX
  obs := fun s => obsXG n chk fa fn s.heap.get?
  val := fun _ => (true, valX fn)
  says := fun _ h => ∃ K : PySem.W.Frag, K.In h ∧ SaysX chk fa fn K
  of := fun _ _ e => ⟨_, He.frG_in, e⟩
  keeps := fun _ _ _ ⟨K, hK, c⟩ k => ⟨K, PySem.W.Frag.In.keeps hK k, c⟩
/-- what is seen of one run, thing by thing: each needs less memory alone -/
theorem map3 {α β γ δ : Type} {o : Option α} {f : α → β} {g : α → γ} {h : α → δ} {x : β} {y : γ} {z : δ} (a : o.map f = some x) (b : o.map g = some y) (c : o.map h = some z) : o.map (fun s => (f s, g s, h s)) = some (x, y, z) := by
  cases o with
  | none => cases a
  | some s => cases a; cases b; cases c; rfl
theorem map2 {α β γ : Type} {o : Option α} {f : α → β × γ} {x : β} {y : γ} (a : o.map (fun s => (f s).1) = some x) (b : o.map (fun s => (f s).2) = some y) : o.map f = some (x, y) := by
  cases o with
  | none => cases a
  | some s => cases a; cases b; rfl
theorem map_and {α : Type} {o : Option α} {f g : α → Bool} (a : o.map f = some true) (b : o.map g = some true) : o.map (fun s => f s && g s) = some true := by
  cases o with
  | none => cases a
  | some s =>
    have a : f s = true := Option.some.inj a
    have b : g s = true := Option.some.inj b
    show some (f s && g s) = some true
    rw [a, b]; rfl
theorem map_cut {α β : Type} {o : Option α} {p : α → β → Bool} {l : List β} (k : Nat) (a : o.map (fun s => (l.take k).all (p s)) = some true) (b : o.map (fun s => (l.drop k).all (p s)) = some true) : o.map (fun s => l.all (p s)) = some true := by
  have := map_and a b
  cases o with
  | none => cases a
  | some s =>
    have h : ((l.take k).all (p s) && (l.drop k).all (p s)) = true := Option.some.inj this
    show some (l.all (p s)) = some true
    rw [← List.all_append, List.take_append_drop] at h
    rw [h]
structure Wd where
  cl : List Nat
  fl : List Nat
end Ev
namespace Ev
open PySem PySem.Spec PyProof.Rows L2
/-- K, the facts of it, the tables: empty, and not in it -/
structure SaysL (chk : PySem.W.Frag → Bool) (fa : List He.Fa) (fn : List Ev.DfX) (tf : List He.Defn) (h : Heap) (K : PySem.W.Frag) : Prop where
  s : Ev.SaysX chk fa fn K
  hd : ∀ p ∈ tf, PySem.W.codeHdIn K (He.cT K p).1 (He.cT K p).2 = true
  out : ∀ p ∈ tf, K.lookup (He.cT K p).2 = none
  empty : ∀ p ∈ tf, h.get? (He.cT K p).2 = some { cls := .none, data := .fields #[] }
def obsF (fa : List He.Fa) (fn : List DfX) (K : PySem.W.Frag) : He.AlD := ((fa.all fun f => f.ok K) && fn.all fun d => d.ok K, fn.map fun d => He5.fnA K (d.at_ K))
def obsL (n : Nat) (chk : PySem.W.Frag → Bool) (fa : List He.Fa) (fn : List Ev.DfX) (tf : List He.Defn) (g : Addr → Option Obj) : Ev.AlX :=
  (chk (He.frT g (((List.range n).reverse))) && He.tabsB g tf (He.frT g (((List.range n).reverse))), obsF fa fn (He.frT g (((List.range n).reverse))))
theorem saysL_of {n : Nat} {chk : PySem.W.Frag → Bool} {fa : List He.Fa} {fn : List Ev.DfX} {tf : List He.Defn} {h : Heap} (e : obsL n chk fa fn tf h.get? = (true, Ev.valX fn)) : SaysL chk fa fn tf h (He.frT h.get? (((List.range n).reverse))) := by
  obtain ⟨h1, h2⟩ := He.ba (congrArg (fun z : Ev.AlX => z.1) e)
  have e2 := congrArg (fun z : Ev.AlX => z.2) e
  have key : ∀ p ∈ tf, PySem.W.codeHdIn (He.frT h.get? (((List.range n).reverse))) (He.cT (He.frT h.get? (((List.range n).reverse))) p).1 (He.cT (He.frT h.get? (((List.range n).reverse))) p).2 = true ∧ ∃ o, h.get? (He.cT (He.frT h.get? (((List.range n).reverse))) p).2 = some o ∧ He.emptyTab o = true := fun p hp => by
    obtain ⟨h3, h4⟩ := He.ba (List.all_eq_true.mp h2 p hp)
    cases q : h.get? (He.cT (He.frT h.get? (((List.range n).reverse))) p).2 with
    | none => rw [q] at h4; cases h4
    | some o => rw [q] at h4; exact ⟨h3, o, rfl, h4⟩
  refine ⟨?_, fun p hp => (key p hp).1, fun p hp => ?_, fun p hp => ?_⟩
  · show (chk _, obsF fa fn _) = (true, Ev.valX fn)
    rw [h1, show obsF fa fn (He.frT h.get? (((List.range n).reverse))) = Ev.valX fn from e2]
  · obtain ⟨_, o, q, z⟩ := key p hp
    exact He.frT_none q z
  · obtain ⟨_, o, q, z⟩ := key p hp
    rw [q, He.emptyTab_eq z]
def hookL (n : Nat) (chk : PySem.W.Frag → Bool) (fa : List He.Fa) (fn : List Ev.DfX) (tf : List He.Defn) : PySem.W.Hook where
  α := Ev.AlX
  obs := fun s => obsL n chk fa fn tf s.heap.get?
  val := fun _ => (true, Ev.valX fn)
  says := fun _ h => ∃ K : PySem.W.Frag, K.In h ∧ SaysL chk fa fn tf h K
  of := fun _ _ e => ⟨_, He.frT_in, saysL_of e⟩
  keeps := fun _ _ _ ⟨K, hK, c⟩ k => ⟨K, PySem.W.Frag.In.keeps hK k, ⟨c.s, c.hd, c.out, fun p hp => k _ _ (c.empty p hp)⟩⟩
theorem obsL_eq {n : Nat} {chk : PySem.W.Frag → Bool} {fa : List He.Fa} {fn : List Ev.DfX} {tf : List He.Defn} {g : Addr → Option Obj} {s : Shared} (h : ∀ a, g a = s.heap.get? a) : obsL n chk fa fn tf g = (hookL n chk fa fn tf).obs s := by
  have e : g = s.heap.get? := funext h
  rw [e] <;> rfl
/-- the tables stand apart -/
def apartB : List Addr → Bool
  | [] => true
  | a :: r => (!memB a r) && apartB r
end Ev
namespace Ev.k09
open PySem PySem.Spec PyProof.Rows L2 Ev
def top (i : Nat) : Stmt := PySem.Challenge.pw_heaprows_k09_whole_anew.main.body.getD i (.Pass ⟨0, 0, 0, 0⟩)
def mst (i j : Nat) : Stmt := match top i with
  | .ClassDef _ _ _ b _ _ _ _ _ _ _ => b.getD j (.Pass ⟨0, 0, 0, 0⟩)
  | _ => .Pass ⟨0, 0, 0, 0⟩
def W : Wd := ⟨[5, 6, 11], [5, 2006, 7, 8, 9, 10, 11, 12, 13, 16, 40, 41, 69, 70, 71]⟩
def cd : Nat → ClsD
  | 5 => ⟨"Tree", ["arms", "many", "places"], ["__init__", "__len__", "__contains__", "__iter__", "__getitem__", "__eq__", "check_place", "parent", "way_to", "depth", "subtree", "size", "height"], [], ["of"], []⟩
  | 6 => ⟨"Sift", ["looks", "row", "way"], ["__init__", "__eq__"], [], [], []⟩
  | 11 => ⟨"Built", ["changes", "looks", "row", "stops"], ["__init__", "__eq__", "all_parts"], [], [], []⟩
  | _ => ⟨"", [], [], [], [], []⟩
def fnm : Nat → Str × Option Str
  | 1 => ("is_number", none)
  | 2 => ("is_key", none)
  | 3 => ("check_arms", none)
  | 4 => ("check_row", none)
  | 5 => ("Tree", some "__init__")
  | 2006 => ("Tree", some "of")
  | 7 => ("Tree", some "__len__")
  | 8 => ("Tree", some "__contains__")
  | 9 => ("Tree", some "__iter__")
  | 10 => ("Tree", some "__getitem__")
  | 11 => ("Tree", some "__eq__")
  | 12 => ("Tree", some "check_place")
  | 13 => ("Tree", some "parent")
  | 16 => ("Tree", some "subtree")
  | 55 => ("check_heap", none)
  | 28 => ("faults_in", none)
  | 29 => ("falls_in", none)
  | 31 => ("faults", none)
  | 32 => ("falls", none)
  | 40 => ("Sift", some "__init__")
  | 41 => ("Sift", some "__eq__")
  | 42 => ("moved", none)
  | 43 => ("first_least", none)
  | 44 => ("way_up", none)
  | 45 => ("way_down", none)
  | 46 => ("lifted", none)
  | 47 => ("sunk", none)
  | 48 => ("sift_up", none)
  | 49 => ("sift_down", none)
  | 69 => ("Built", some "__init__")
  | 70 => ("Built", some "__eq__")
  | 71 => ("Built", some "all_parts")
  | 72 => ("parents_of", none)
  | 73 => ("built", none)
  | 57 => ("without_last", none)
  | 58 => ("taken", none)
  | 60 => ("check_full", none)
  | 61 => ("push", none)
  | 62 => ("take", none)
  | 74 => ("build", none)
  | 19 => ("_law_number", none)
  | 20 => ("_law_take", none)
  | 34 => ("_law_pick", none)
  | 35 => ("_law_arms", none)
  | 25 => ("_law_keys", none)
  | 99 => ("law", none)
  | 14 => ("Tree", some "way_to")
  | 15 => ("Tree", some "depth")
  | 17 => ("Tree", some "size")
  | 18 => ("Tree", some "height")
  | 1000 => ("first_least", none)
  | _ => ("", none)
def dd1 : DfX := ⟨fun K => faK fnm K 1, "is_number", "is_number", defArgs (top 15), defBody (top 15), defScope (top 15), [], []⟩
def dd2 : DfX := ⟨fun K => faK fnm K 2, "is_key", "is_key", defArgs (top 16), defBody (top 16), defScope (top 16), [], []⟩
def dd3 : DfX := ⟨fun K => faK fnm K 3, "check_arms", "check_arms", defArgs (top 17), defBody (top 17), defScope (top 17), [], []⟩
def dd4 : DfX := ⟨fun K => faK fnm K 4, "check_row", "check_row", defArgs (top 18), defBody (top 18), defScope (top 18), [], []⟩
def dd5 : DfX := ⟨fun K => faK fnm K 5, "__init__", "Tree.__init__", defArgs (mst 19 1), defBody (mst 19 1), defScope (mst 19 1), [], [("arms", .int 2)]⟩
def dd2006 : DfX := ⟨fun K => faK fnm K 2006, "of", "Tree.of", defArgs (mst 19 2), defBody (mst 19 2), defScope (mst 19 2), [], [("arms", .int 2)]⟩
def dd7 : DfX := ⟨fun K => faK fnm K 7, "__len__", "Tree.__len__", defArgs (mst 19 3), defBody (mst 19 3), defScope (mst 19 3), [], []⟩
def dd8 : DfX := ⟨fun K => faK fnm K 8, "__contains__", "Tree.__contains__", defArgs (mst 19 4), defBody (mst 19 4), defScope (mst 19 4), [], []⟩
def dd9 : DfX := ⟨fun K => faK fnm K 9, "__iter__", "Tree.__iter__", defArgs (mst 19 5), defBody (mst 19 5), defScope (mst 19 5), [], []⟩
def dd10 : DfX := ⟨fun K => faK fnm K 10, "__getitem__", "Tree.__getitem__", defArgs (mst 19 6), defBody (mst 19 6), defScope (mst 19 6), [], []⟩
def dd11 : DfX := ⟨fun K => faK fnm K 11, "__eq__", "Tree.__eq__", defArgs (mst 19 7), defBody (mst 19 7), defScope (mst 19 7), [], []⟩
def dd12 : DfX := ⟨fun K => faK fnm K 12, "check_place", "Tree.check_place", defArgs (mst 19 8), defBody (mst 19 8), defScope (mst 19 8), [], []⟩
def dd13 : DfX := ⟨fun K => faK fnm K 13, "parent", "Tree.parent", defArgs (mst 19 9), defBody (mst 19 9), defScope (mst 19 9), [], []⟩
def dd16 : DfX := ⟨fun K => faK fnm K 16, "subtree", "Tree.subtree", defArgs (mst 19 12), defBody (mst 19 12), defScope (mst 19 12), [], []⟩
def dd55 : DfX := ⟨fun K => faK fnm K 55, "check_heap", "check_heap", defArgs (top 21), defBody (top 21), defScope (top 21), [], []⟩
def dd28 : DfX := ⟨fun K => faK fnm K 28, "faults_in", "faults_in", defArgs (top 22), defBody (top 22), defScope (top 22), [], []⟩
def dd29 : DfX := ⟨fun K => faK fnm K 29, "falls_in", "falls_in", defArgs (top 23), defBody (top 23), defScope (top 23), [], []⟩
def dd31 : DfX := ⟨fun K => faK fnm K 31, "faults", "faults", defArgs (top 24), defBody (top 24), defScope (top 24), [], [("arms", .int 2)]⟩
def dd32 : DfX := ⟨fun K => faK fnm K 32, "falls", "falls", defArgs (top 25), defBody (top 25), defScope (top 25), [], [("arms", .int 2)]⟩
def dd40 : DfX := ⟨fun K => faK fnm K 40, "__init__", "Sift.__init__", defArgs (mst 27 1), defBody (mst 27 1), defScope (mst 27 1), [], []⟩
def dd41 : DfX := ⟨fun K => faK fnm K 41, "__eq__", "Sift.__eq__", defArgs (mst 27 2), defBody (mst 27 2), defScope (mst 27 2), [], []⟩
def dd42 : DfX := ⟨fun K => faK fnm K 42, "moved", "moved", defArgs (top 28), defBody (top 28), defScope (top 28), [], []⟩
def dd43 : DfX := ⟨fun K => faK fnm K 43, "first_least", "first_least", defArgs (top 29), defBody (top 29), defScope (top 29), [], []⟩
def dd44 : DfX := ⟨fun K => faK fnm K 44, "way_up", "way_up", defArgs (top 30), defBody (top 30), defScope (top 30), [], []⟩
def dd45 : DfX := ⟨fun K => faK fnm K 45, "way_down", "way_down", defArgs (top 31), defBody (top 31), defScope (top 31), [], []⟩
def dd46 : DfX := ⟨fun K => faK fnm K 46, "lifted", "lifted", defArgs (top 32), defBody (top 32), defScope (top 32), [], []⟩
def dd47 : DfX := ⟨fun K => faK fnm K 47, "sunk", "sunk", defArgs (top 33), defBody (top 33), defScope (top 33), [], []⟩
def dd48 : DfX := ⟨fun K => faK fnm K 48, "sift_up", "sift_up", defArgs (top 34), defBody (top 34), defScope (top 34), [], [("arms", .int 2)]⟩
def dd49 : DfX := ⟨fun K => faK fnm K 49, "sift_down", "sift_down", defArgs (top 35), defBody (top 35), defScope (top 35), [], [("arms", .int 2)]⟩
def dd69 : DfX := ⟨fun K => faK fnm K 69, "__init__", "Built.__init__", defArgs (mst 37 1), defBody (mst 37 1), defScope (mst 37 1), [], []⟩
def dd70 : DfX := ⟨fun K => faK fnm K 70, "__eq__", "Built.__eq__", defArgs (mst 37 2), defBody (mst 37 2), defScope (mst 37 2), [], []⟩
def dd71 : DfX := ⟨fun K => faK fnm K 71, "all_parts", "Built.all_parts", defArgs (mst 37 3), defBody (mst 37 3), defScope (mst 37 3), [], []⟩
def dd72 : DfX := ⟨fun K => faK fnm K 72, "parents_of", "parents_of", defArgs (top 38), defBody (top 38), defScope (top 38), [], []⟩
def dd73 : DfX := ⟨fun K => faK fnm K 73, "built", "built", defArgs (top 39), defBody (top 39), defScope (top 39), [], []⟩
def dd57 : DfX := ⟨fun K => faK fnm K 57, "without_last", "without_last", defArgs (top 40), defBody (top 40), defScope (top 40), [], []⟩
def dd58 : DfX := ⟨fun K => faK fnm K 58, "taken", "taken", defArgs (top 41), defBody (top 41), defScope (top 41), [], []⟩
def dd60 : DfX := ⟨fun K => faK fnm K 60, "check_full", "check_full", defArgs (top 42), defBody (top 42), defScope (top 42), [], []⟩
def dd61 : DfX := ⟨fun K => faK fnm K 61, "push", "push", defArgs (top 43), defBody (top 43), defScope (top 43), [], [("arms", .int 2)]⟩
def dd62 : DfX := ⟨fun K => faK fnm K 62, "take", "take", defArgs (top 44), defBody (top 44), defScope (top 44), [], [("arms", .int 2)]⟩
def dd74 : DfX := ⟨fun K => faK fnm K 74, "build", "build", defArgs (top 45), defBody (top 45), defScope (top 45), [], [("arms", .int 2)]⟩
def dd19 : DfX := ⟨fun K => faK fnm K 19, "_law_number", "_law_number", defArgs (top 47), defBody (top 47), defScope (top 47), [], []⟩
def dd20 : DfX := ⟨fun K => faK fnm K 20, "_law_take", "_law_take", defArgs (top 48), defBody (top 48), defScope (top 48), [], []⟩
def dd34 : DfX := ⟨fun K => faK fnm K 34, "_law_pick", "_law_pick", defArgs (top 49), defBody (top 49), defScope (top 49), [], []⟩
def dd35 : DfX := ⟨fun K => faK fnm K 35, "_law_arms", "_law_arms", defArgs (top 50), defBody (top 50), defScope (top 50), [], []⟩
def dd25 : DfX := ⟨fun K => faK fnm K 25, "_law_keys", "_law_keys", defArgs (top 51), defBody (top 51), defScope (top 51), [], []⟩
def dd99 : DfX := ⟨fun K => faK fnm K 99, "law", "law", defArgs (top 52), defBody (top 52), defScope (top 52), [], []⟩
def dd14 : DfX := ⟨fun K => faK fnm K 14, "way_to", "Tree.way_to", defArgs (mst 19 10), defBody (mst 19 10), defScope (mst 19 10), [], []⟩
def dd15 : DfX := ⟨fun K => faK fnm K 15, "depth", "Tree.depth", defArgs (mst 19 11), defBody (mst 19 11), defScope (mst 19 11), [], []⟩
def dd17 : DfX := ⟨fun K => faK fnm K 17, "size", "Tree.size", defArgs (mst 19 13), defBody (mst 19 13), defScope (mst 19 13), [], []⟩
def dd18 : DfX := ⟨fun K => faK fnm K 18, "height", "Tree.height", defArgs (mst 19 14), defBody (mst 19 14), defScope (mst 19 14), [], []⟩
def fnl : List DfX := [dd1, dd2, dd3, dd4, dd5, dd2006, dd7, dd8, dd9, dd10, dd11, dd12, dd13, dd16, dd55, dd28, dd29, dd31, dd32, dd40, dd41, dd42, dd43, dd44, dd45, dd46, dd47, dd48, dd49, dd69, dd70, dd71, dd72, dd73, dd57, dd58, dd60, dd61, dd62, dd74, dd19, dd20, dd34, dd35, dd25, dd99, dd14, dd15, dd17, dd18]
def fal : List He.Fa := [.glo "is_number", .glo "is_key", .glo "check_arms", .glo "check_row", .glo "check_heap", .glo "faults_in", .glo "falls_in", .glo "faults", .glo "falls", .glo "moved", .glo "first_least", .glo "way_up", .glo "way_down", .glo "lifted", .glo "sunk", .glo "sift_up", .glo "sift_down", .glo "parents_of", .glo "built", .glo "without_last", .glo "taken", .glo "check_full", .glo "push", .glo "take", .glo "build", .glo "_law_number", .glo "_law_take", .glo "_law_pick", .glo "_law_arms", .glo "_law_keys", .glo "law", .glo "Built", .glo "Sift", .glo "Tree", .mkr "Built", .mkr "Sift", .mkr "Tree", .free "bool", .free "enumerate", .free "int", .free "isinstance", .free "iter", .free "len", .free "list", .free "min", .free "range", .free "sorted", .free "sum", .free "tuple", .free "zip", .int "MOST_ARMS" 4, .int "MOST_KEY" 1000000000, .int "MOST_PLACES" 12]
abbrev rwR : PySem.W.OpenRow := PySem.W.OpenLaw.row PySem.Challenge.rw_heaprows_k09_whole_anew
def tl : List Nat := [0]
def chk (K : PySem.W.Frag) : Bool := chkC W.cl cd K && apartB (tl.map fun i => faK fnm K (i + 1000))
abbrev hk : PySem.W.Hook := hookL 4000 chk fal fnl (tl.map fun i => fnm (i + 1000))
def ob (s : PySem.W.SharedT) : AlX := obsL 4000 chk fal fnl (tl.map fun i => fnm (i + 1000)) (HandSHeadRun.getT s)
theorem ob_eq (s : PySem.W.SharedT) : ob s = hk.obs s.abs := obsL_eq (HandSHeadRun.getT_eq s)
def nms : List PySem.Str := (["_wall", "HeapError", "BadRow", "NotHeap", "BadArms", "BadMany", "BadPlace", "BadKey", "Empty", "Full", "MOST_ARMS", "MOST_PLACES", "MOST_KEY", "is_number", "is_key", "check_arms", "check_row", "Tree", "check_heap", "faults_in"] : List PySem.Str) ++ (["falls_in", "faults", "falls", "Sift", "moved", "first_least", "way_up", "way_down", "lifted", "sunk", "sift_up", "sift_down", "Built", "parents_of", "built", "without_last", "taken", "check_full", "push", "take"] : List PySem.Str) ++ (["build", "_law_number", "_law_take", "_law_pick", "_law_arms", "_law_keys"] : List PySem.Str)
/-- the run at a world -/
noncomputable abbrev ends (w : World) (os : OsState) : Option PySem.W.SharedT := HandSHeadRun.endF (HandSHeadRun.stepQ (HandSHeadRun.denQ HandSHeadRun.tabQ) rwR.prog w) 20000 rwR.prog w os
open PySem.W PySem.Calls HandSHeadRun in
theorem r1 (w : World) (os : OsState) : (ends w os).map (fun s => HandSHeadRun.looksF rwR.prog (boot_heap w.params) s.abs) = some true := by kernel_rfl
open PySem.W PySem.Calls HandSHeadRun in
theorem r2 (w : World) (os : OsState) : (ends w os).map (fun s => seenQ (PySem.W.view rwR.prog [52]) nms (importedModules rwR.prog.main.body) (fun s => xlAt (PySem.W.view rwR.prog [52]) [] s && recOk rwR.toRowW.records s) s.abs) = some (openGood (PySem.W.view rwR.prog [52]) nms) := by kernel_rfl
theorem r3 (w : World) (os : OsState) : (ends w os).map (fun s => (ob s).1) = some true := by kernel_rfl
def kk (s : PySem.W.SharedT) : PySem.W.Frag := He.frT (HandSHeadRun.getT s) ((List.range 4000).reverse)
theorem r4a (w : World) (os : OsState) : (ends w os).map (fun s => fal.all (He.Fa.ok (kk s))) = some true := by kernel_rfl
theorem r4b (w : World) (os : OsState) : (ends w os).map (fun s => (fnl.take 30).all (He5.DefA.ok (kk s))) = some true := by kernel_rfl
theorem r4c (w : World) (os : OsState) : (ends w os).map (fun s => ((fnl.drop 30).take 30).all (He5.DefA.ok (kk s))) = some true := by kernel_rfl
theorem r4d (w : World) (os : OsState) : (ends w os).map (fun s => ((fnl.drop 30).drop 30).all (He5.DefA.ok (kk s))) = some true := by kernel_rfl
theorem r4 (w : World) (os : OsState) : (ends w os).map (fun s => (ob s).2.1) = some true := map_and (f := fun s => fal.all (He.Fa.ok (kk s))) (g := fun s => fnl.all (He5.DefA.ok (kk s))) (r4a w os) (map_cut (p := fun s => He5.DefA.ok (kk s)) 30 (r4b w os) (map_cut (p := fun s => He5.DefA.ok (kk s)) 30 (r4c w os) (r4d w os)))
theorem r5 (w : World) (os : OsState) : (ends w os).map (fun s => (ob s).2.2) = some (fnl.map He5.DefA.val) := by kernel_rfl
theorem run (w : World) : HandSHeadRun.RunEq rwR (PySem.W.view rwR.prog [52]) hk ob 20000 nms w := fun os => map3 (r1 w os) (r2 w os) (map2 (f := ob) (r3 w os) (map2 (f := fun s => (ob s).2) (r4 w os) (r5 w os)))
end Ev.k09
namespace Ev
open PySem PySem.Spec PyProof.Rows L2
inductive AV where
  | und | non | bl (b : Bool) | int (i : Int) | str (x : Str)
  | tup (xs : List AV) | lst (xs : List AV) | scr (xs : List AV) | mix (xs : List AV)
  | obj (c : Nat) (fs : List AV)
  | dct (t : Bool) (ks : List (List Key)) (vs : List AV)
  | ref (i : Nat)
  | fn (f : Nat)
  | ty (t : Ty)
  | cls (c : Nat)
inductive Cell where
  | lst (xs : List AV)
  | ins (c : Nat) (fs : List AV)
  | dct (t : Bool) (ks : List (List Key)) (vs : List AV)
  | tab (i : Nat)
abbrev En := List AV
abbrev Hs := List Cell
inductive R where
  | ok (v : AV) (A : Hs)
  | bad
inductive RA where
  | ok (vs : List AV) (A : Hs)
  | bad
inductive RS where
  | nx (e : En) (A : Hs)
  | rt (v : AV) (A : Hs)
  | bk (e : En) (A : Hs)
  | bad
abbrev CE := En → Hs → R
abbrev CA := En → Hs → RA
abbrev CS := En → Hs → RS
/-- where the cells stand: the object, its dict (or the object again) -/
structure Rho where
  c : List (Addr × Addr)
  v : List Addr
def Rho.onC (ρ : Rho) (a : Addr) : Prop := ∃ p ∈ ρ.c, a = p.1 ∨ a = p.2
/-- cells, and what is being made behind the evaluator's back (a comprehension's list) -/
def Rho.on (ρ : Rho) (a : Addr) : Prop := ρ.onC a ∨ a ∈ ρ.v
def Rho.push (ρ : Rho) (q : Addr × Addr) : Rho := ⟨ρ.c ++ [q], ρ.v⟩
/-- what the text has: where defs and classes stand -/
structure Gl where
  K : PySem.W.Frag
  fa : Nat → Addr
  ca : Nat → Addr
def KT (K : PySem.W.Frag) (a : Addr) (vs : List V) : Prop :=
  ∃ (o : Obj) (its : Array Value) (n : Nat), K.lookup a = some o ∧ o.cls = .type "tuple" ∧ o.data = .seq its n ∧ its.size ≤ sizeLine ∧ Vals vs its.toList
def KL (K : PySem.W.Frag) (a : Addr) (vs : List V) : Prop :=
  ∃ (o : Obj) (its : Array Value) (n : Nat), K.lookup a = some o ∧ o.cls = .type "list" ∧ o.dict = none ∧ o.data = .seq its n ∧ its.size ≤ sizeLine ∧ Vals vs its.toList
def FzT (_ : PySem.W.Frag) (ρ : Rho) (H : Hp) (a : Addr) (vs : List V) : Prop := H a = some (.tup vs) ∧ ¬ ρ.on a
/-- no tuple -/
def NT (o : HO) : Prop := ∀ xs, o ≠ .tup xs
/-- no dict -/
def ND : HO → Prop
  | .dK _ => False
  | .dT _ => False
  | _ => True
def FzL (K : PySem.W.Frag) (ρ : Rho) (H : Hp) (a : Addr) (vs : List V) : Prop := (Rd H a (.lst vs) ∧ ¬ ρ.on a) ∨ KL K a vs
/-- a dict: its keys are ints and texts (false), each as a row of one; or tuples of them (true) -/
inductive DctH (H : Hp) (a : Addr) : Bool → List (List Key) → List V → Prop
  | k {js : List Key} {vs : List V} : js.length = vs.length → Rd H a (.dK (js.zip vs)) → DctH H a false (js.map fun k => [k]) vs
  | t {ks : List (List Key)} {vs : List V} : ks.length = vs.length → Rd H a (.dT (ks.zip vs)) → DctH H a true ks vs
/-- a dict that is not locked -/
inductive DctE (H : Hp) (a : Addr) : Bool → List (List Key) → List V → Prop
  | k {js : List Key} {vs : List V} : js.length = vs.length → H a = some (.dK (js.zip vs)) → DctE H a false (js.map fun k => [k]) vs
  | t {ks : List (List Key)} {vs : List V} : ks.length = vs.length → H a = some (.dT (ks.zip vs)) → DctE H a true ks vs
theorem DctE.to {H : Hp} {a : Addr} {b : Bool} {ks : List (List Key)} {vs : List V} (h : DctE H a b ks vs) : DctH H a b ks vs := by
  cases h with
  | k l h => exact .k l (.inl h)
  | t l h => exact .t l (.inl h)
theorem DctE.full {H : Hp} {a : Addr} {b : Bool} {ks : List (List Key)} {vs : List V} (h : DctE H a b ks vs) : ∃ o, H a = some o := by
  cases h with
  | k _ h => exact ⟨_, h⟩
  | t _ h => exact ⟨_, h⟩
theorem DctE.mono {H H' : Hp} {a : Addr} {b : Bool} {ks : List (List Key)} {vs : List V} (h : DctE H a b ks vs) (e : ∀ o, H a = some o → H' a = some o) : DctE H' a b ks vs := by
  cases h with
  | k l h => exact .k l (e _ h)
  | t l h => exact .t l (e _ h)
theorem DctH.full {H : Hp} {a : Addr} {b : Bool} {ks : List (List Key)} {vs : List V} (h : DctH H a b ks vs) : ∃ o, H a = some o := by
  cases h with
  | k _ h => rcases h with h | ⟨_, h⟩ <;> exact ⟨_, h⟩
  | t _ h => rcases h with h | ⟨_, h⟩ <;> exact ⟨_, h⟩
/-- what becomes of what stands there: nothing, or a dict is locked -/
def Lat (H H' : Hp) (a : Addr) : Prop := ∀ o, H a = some o → H' a = some o ∨ (¬ ND o ∧ ∃ od, H' a = some (.frz od o))
theorem rd_lat {H H' : Hp} {a : Addr} {o : HO} (h : Rd H a o) (e : Lat H H' a) : Rd H' a o := by
  rcases h with h | ⟨od, h⟩
  · rcases e _ h with z | ⟨_, z⟩
    · exact .inl z
    · exact .inr z
  · rcases e _ h with z | ⟨z, _⟩
    · exact .inr ⟨_, z⟩
    · exact (z True.intro).elim
theorem DctH.mono {H H' : Hp} {a : Addr} {b : Bool} {ks : List (List Key)} {vs : List V} (h : DctH H a b ks vs) (e : Lat H H' a) : DctH H' a b ks vs := by
  cases h with
  | k l h => exact .k l (rd_lat h e)
  | t l h => exact .t l (rd_lat h e)
theorem DctH.same {H H' : Hp} {a : Addr} {b : Bool} {ks : List (List Key)} {vs : List V} (h : DctH H a b ks vs) (e : ∀ o, H a = some o → H' a = some o) : DctH H' a b ks vs := h.mono fun o q => .inl (e o q)
/-- the variables of classes without __slots__, sorted -/
def plainNm : Nat → List Str
  | 45 => ["ahead", "behind", "rank"]
  | 46 => ["one", "other"]
  | 47 => ["look", "opens"]
  | 48 => ["arms", "held", "many", "room"]
  | 49 => ["written"]
  | 50 => ["levels"]
  | 51 => ["found", "goal", "many"]
  | 52 => ["bounds", "number", "plan"]
  | 53 => ["taken", "waiting"]
  | 54 => ["least"]
  | 55 => ["row"]
  | 56 => ["places", "rows"]
  | 57 => ["deeds", "levels"]
  | 58 => ["arms", "floor", "held", "past", "who"]
  | 59 => ["floor", "held", "past", "queue", "who"]
  | _ => []
/-- an instance of class c (at C) at a, its dict at dx: with slots; or with its variables in its dict -/
inductive InsH (H : Hp) (C : Addr) (c : Nat) (a dx : Addr) : List (Option V) → Prop
  | sl {vs} : plainNm c = [] → SlX.Slt H a C dx vs → InsH H C c a dx vs
  | pl {vs fs} : plainNm c ≠ [] → H a = some (.ins C dx fs) → (fs.map (·.1)).Nodup → (∀ p ∈ fs, p.1 ∈ plainNm c) → (∀ (i : Nat) (v : V), vs[i]? = some (some v) → ∃ nm, (plainNm c)[i]? = some nm ∧ fs.lookup nm = some v) → InsH H C c a dx vs
mutual
/-- t = true: nothing in it can change -/
inductive VRel (G : Gl) (ρ : Rho) (H : Hp) : Bool → AV → V → Prop
  | non {t} : VRel G ρ H t .non .non
  | bl {t b} : VRel G ρ H t (.bl b) (.bl b)
  | int {t i} : VRel G ρ H t (.int i) (.int i)
  | str {t x} : VRel G ρ H t (.str x) (.str x)
  | tup {t xs a vs} : FzT G.K ρ H a vs → VRels G ρ H true xs vs → VRel G ρ H t (.tup xs) (.ref a)
  | lst {t xs a vs} : H a = some (.lst vs) → ¬ ρ.on a → VRels G ρ H true xs vs → VRel G ρ H t (.lst xs) (.ref a)
  | scr {t xs a vs} : FzL G.K ρ H a vs → VRels G ρ H true xs vs → VRel G ρ H t (.scr xs) (.ref a)
  | obj {t c fs a dx vs} : InsH H (G.ca c) c a dx vs → ¬ ρ.on a → ¬ ρ.on dx → (∃ o, H dx = some o ∧ ND o) → FRels G ρ H true fs vs → VRel G ρ H t (.obj c fs) (.ref a)
  | dct {t b ks xs a vs} : DctH H a b ks vs → ¬ ρ.on a → VRels G ρ H true xs vs → VRel G ρ H t (.dct b ks xs) (.ref a)
  | ref {i p} : ρ.c[i]? = some p → VRel G ρ H false (.ref i) (.ref p.1)
  | mix {xs a vs} : FzT G.K ρ H a vs → VRels G ρ H false xs vs → VRel G ρ H false (.mix xs) (.ref a)
  | fn {t f} : VRel G ρ H t (.fn f) (.ref (G.fa f))
  | ty {t k} : VRel G ρ H t (.ty k) (.ty k.nm)
  | cls {t c} : VRel G ρ H t (.cls c) (.ref (G.ca c))
inductive VRels (G : Gl) (ρ : Rho) (H : Hp) : Bool → List AV → List V → Prop
  | nil {t} : VRels G ρ H t [] []
  | cons {t x xs v vs} : VRel G ρ H t x v → VRels G ρ H t xs vs → VRels G ρ H t (x :: xs) (v :: vs)
/-- fields: what is not there is not known -/
inductive FRels (G : Gl) (ρ : Rho) (H : Hp) : Bool → List AV → List (Option V) → Prop
  | nil {t vs} : FRels G ρ H t [] vs
  | und {t xs o vs} : FRels G ρ H t xs vs → FRels G ρ H t (.und :: xs) (o :: vs)
  | undn {t xs} : FRels G ρ H t xs [] → FRels G ρ H t (.und :: xs) []
  | cons {t x xs v vs} : VRel G ρ H t x v → FRels G ρ H t xs vs → FRels G ρ H t (x :: xs) (some v :: vs)
end
/-- the names that lambdas of the defs bear -/
def tabNm : Nat → Str
  | 0 => "first_least.<locals>.<lambda>"
  | 1 => "earliest_first.<locals>.<lambda>"
  | 2 => "front.<locals>.<lambda>"
  | 3 => "looks_of.<locals>.<lambda>"
  | _ => ""
/-- a table of code objects: each one bears the name q -/
def TabR (ρ : Rho) (H : Hp) (P : Addr) (q : Str) : Prop := ∃ ps : Array Value, H P = some (.tbl ps) ∧ TriplesOk ps.toList ∧ ∀ (pos : Pos) (cv : Value), codeAmong pos ps.toList = some cv → ∃ c, cv = .ref c ∧ H c = some (LamX.CodeO c q) ∧ ¬ ρ.on c
def CRel (G : Gl) (ρ : Rho) (H : Hp) : Cell → Addr × Addr → Prop
  | .lst xs, p => p.2 = p.1 ∧ ∃ vs, H p.1 = some (.lst vs) ∧ VRels G ρ H false xs vs
  | .ins c fs, p => p.2 ≠ p.1 ∧ (∃ o, H p.2 = some o ∧ NT o ∧ ND o) ∧ ∃ vs, InsH H (G.ca c) c p.1 p.2 vs ∧ FRels G ρ H false fs vs
  | .dct b ks xs, p => p.2 = p.1 ∧ ∃ vs, DctE H p.1 b ks vs ∧ VRels G ρ H false xs vs
  | .tab i, p => p.2 = p.1 ∧ p.1 = G.fa (i + 1000) ∧ TabR ρ H p.1 (tabNm i)
def Apart (p q : Addr × Addr) : Prop := p.1 ≠ q.1 ∧ p.1 ≠ q.2 ∧ p.2 ≠ q.1 ∧ p.2 ≠ q.2
structure Rel (G : Gl) (ρ : Rho) (A : Hs) (H : Hp) : Prop where
  len : ρ.c.length = A.length
  pw : ρ.c.Pairwise Apart
  cell : ∀ (i : Nat) (c : Cell) (p : Addr × Addr), A[i]? = some c → ρ.c[i]? = some p → CRel G ρ H c p
  pv : ∀ a ∈ ρ.v, ¬ ρ.onC a ∧ ∃ o, H a = some o ∧ NT o
structure Ext (ρ : Rho) (H : Hp) (ρ' : Rho) (H' : Hp) : Prop where
  app : ∃ ν, ρ'.c = ρ.c ++ ν ∧ ρ'.v = ρ.v ∧ ∀ p ∈ ν, H p.1 = none ∧ H p.2 = none
  keep : ∀ a o, H a = some o → ¬ ρ.onC a → H' a = some o ∨ (¬ ND o ∧ a ∉ ρ.v ∧ ∃ od, H' a = some (.frz od o))
theorem Ext.kp {ρ ρ' : Rho} {H H' : Hp} (e : Ext ρ H ρ' H') {a : Addr} {o : HO} (h : H a = some o) (n : ¬ ρ.on a) (nd : ND o := by exact True.intro) : H' a = some o := (e.keep a o h fun z => n (.inl z)).resolve_right fun z => z.1 nd
/-- what is private stays -/
theorem Ext.pv {ρ ρ' : Rho} {H H' : Hp} (e : Ext ρ H ρ' H') {a : Addr} {o : HO} (h : H a = some o) (n : ¬ ρ.onC a) (m : a ∈ ρ.v) : H' a = some o := (e.keep a o h n).resolve_right fun z => z.2.1 m
theorem Ext.lat {ρ ρ' : Rho} {H H' : Hp} (e : Ext ρ H ρ' H') {a : Addr} (n : ¬ ρ.onC a) : Lat H H' a := fun o h => (e.keep a o h n).imp id fun z => ⟨z.1, z.2.2⟩
theorem slt_nd {H : Hp} {a C dx : Addr} {c : Nat} {vs : List (Option V)} (h : InsH H C c a dx vs) : ∃ o, H a = some o ∧ ND o := by
  cases h with
  | sl _ h => rcases h with ⟨h, _⟩ | ⟨h, _⟩ <;> exact ⟨_, h, True.intro⟩
  | pl _ h => exact ⟨_, h, True.intro⟩
theorem slt_some {H : Hp} {a C dx : Addr} {c : Nat} {vs : List (Option V)} (h : InsH H C c a dx vs) : ∃ o, H a = some o := let ⟨o, h, _⟩ := slt_nd h; ⟨o, h⟩
theorem CRel.full {G : Gl} {ρ : Rho} {H : Hp} {c : Cell} {p : Addr × Addr} (h : CRel G ρ H c p) : (∃ o, H p.1 = some o) ∧ ∃ o, H p.2 = some o := by
  cases c with
  | lst xs => obtain ⟨e, vs, h, _⟩ := h; exact ⟨⟨_, h⟩, ⟨_, by rw [e]; exact h⟩⟩
  | ins c fs => obtain ⟨_, ⟨o, h, _⟩, vs, s, _⟩ := h; exact ⟨slt_some s, ⟨o, h⟩⟩
  | dct b ks xs => obtain ⟨e, vs, h, _⟩ := h; exact ⟨h.full, by rw [e]; exact h.full⟩
  | tab i => obtain ⟨e, _, ps, h, _⟩ := h; exact ⟨⟨_, h⟩, ⟨_, by rw [e]; exact h⟩⟩
theorem Rel.fullC {G : Gl} {ρ : Rho} {A : Hs} {H : Hp} (r : Rel G ρ A H) {a : Addr} (h : ρ.onC a) : ∃ o, H a = some o := by
  obtain ⟨p, hp, z⟩ := h
  obtain ⟨i, hi, e⟩ := List.mem_iff_getElem.mp hp
  have hA : i < A.length := by rw [← r.len]; exact hi
  have q := (r.cell i A[i] p (List.getElem?_eq_getElem hA) (by rw [List.getElem?_eq_getElem hi, e])).full
  rcases z with rfl | rfl
  · exact q.1
  · exact q.2
theorem Rel.full {G : Gl} {ρ : Rho} {A : Hs} {H : Hp} (r : Rel G ρ A H) {a : Addr} (h : ρ.on a) : ∃ o, H a = some o := h.elim r.fullC fun h => let ⟨_, o, q, _⟩ := r.pv a h; ⟨o, q⟩
theorem Ext.refl (ρ : Rho) (H : Hp) : Ext ρ H ρ H := ⟨⟨[], by simp⟩, fun _ _ h _ => .inl h⟩
theorem Ext.onC {ρ ρ' : Rho} {H H' : Hp} (e : Ext ρ H ρ' H') {a : Addr} {o : HO} (h : H a = some o) (n : ¬ ρ.onC a) : ¬ ρ'.onC a := by
  obtain ⟨ν, e1, _, hn⟩ := e.app
  rintro ⟨p, hp, z⟩
  rw [e1] at hp
  rcases List.mem_append.mp hp with hp | hp
  · exact n ⟨p, hp, z⟩
  · rcases z with rfl | rfl
    · rw [(hn p hp).1] at h; cases h
    · rw [(hn p hp).2] at h; cases h
theorem Ext.on {ρ ρ' : Rho} {H H' : Hp} (e : Ext ρ H ρ' H') {a : Addr} {o : HO} (h : H a = some o) (n : ¬ ρ.on a) : ¬ ρ'.on a := by
  rintro (z | z)
  · exact e.onC h (fun y => n (.inl y)) z
  · obtain ⟨ν, _, e2, _⟩ := e.app
    rw [e2] at z
    exact n (.inr z)
theorem Ext.get {ρ ρ' : Rho} {H H' : Hp} (e : Ext ρ H ρ' H') {i : Nat} {p : Addr × Addr} (h : ρ.c[i]? = some p) : ρ'.c[i]? = some p := by
  obtain ⟨ν, e1, _⟩ := e.app
  have := (List.getElem?_eq_some_iff.mp h).1
  rw [e1, List.getElem?_append_left this]; exact h
theorem Ext.none {G : Gl} {ρ ρ1 : Rho} {A1 : Hs} {H H1 : Hp} (a : Ext ρ H ρ1 H1) (r : Rel G ρ1 A1 H1) {x : Addr} (q : H1 x = none) : H x = none := by
  cases z : H x with
  | none => rfl
  | some o =>
    by_cases y : ρ.onC x
    · obtain ⟨ν, e, _⟩ := a.app
      obtain ⟨p, hp, w⟩ := y
      obtain ⟨o', h'⟩ := r.fullC (a := x) ⟨p, by rw [e]; exact List.mem_append_left _ hp, w⟩
      rw [q] at h'; cases h'
    · rcases a.keep x o z y with this | ⟨_, _, _, this⟩ <;> (rw [q] at this; cases this)
theorem Ext.keep2 {ρ ρ1 ρ2 : Rho} {H H1 H2 : Hp} (a : Ext ρ H ρ1 H1) (b : Ext ρ1 H1 ρ2 H2) : ∀ x o, H x = some o → ¬ ρ.onC x → H2 x = some o ∨ (¬ ND o ∧ x ∉ ρ.v ∧ ∃ od, H2 x = some (.frz od o)) := fun x o h n => by
  have nv : ρ1.v = ρ.v := let ⟨_, _, z, _⟩ := a.app; z
  rcases a.keep x o h n with z | ⟨z1, z2, od, z⟩
  · rcases b.keep x o z (a.onC h n) with y | ⟨y1, y2, od, y⟩
    · exact .inl y
    · exact .inr ⟨y1, by rw [← nv]; exact y2, od, y⟩
  · rcases b.keep x _ z (a.onC h n) with y | ⟨y1, _⟩
    · exact .inr ⟨z1, z2, od, y⟩
    · exact (y1 True.intro).elim
theorem Ext.trans {G : Gl} {ρ ρ1 ρ2 : Rho} {A1 : Hs} {H H1 H2 : Hp} (a : Ext ρ H ρ1 H1) (r : Rel G ρ1 A1 H1) (b : Ext ρ1 H1 ρ2 H2) : Ext ρ H ρ2 H2 := by
  refine ⟨?_, a.keep2 b⟩
  obtain ⟨μ, e2, v2, h2⟩ := b.app
  have up := @Ext.none G ρ ρ1 A1 H H1 a r
  obtain ⟨ν, e1, v1, h1⟩ := a.app
  refine ⟨ν ++ μ, by rw [e2, e1, List.append_assoc], by rw [v2, v1], fun p hp => ?_⟩
  rcases List.mem_append.mp hp with hp | hp
  · exact h1 p hp
  · exact ⟨up (h2 p hp).1, up (h2 p hp).2⟩
section
variable {G : Gl} {ρ ρ' : Rho} {H H' : Hp}
theorem FzT.mono {a : Addr} {vs : List V} (h : FzT G.K ρ H a vs) (e : Ext ρ H ρ' H') : FzT G.K ρ' H' a vs := ⟨e.kp h.1 h.2, e.on h.1 h.2⟩
theorem FzL.mono {a : Addr} {vs : List V} (h : FzL G.K ρ H a vs) (e : Ext ρ H ρ' H') : FzL G.K ρ' H' a vs := by
  rcases h with ⟨h, n⟩ | h
  · rcases h with h | ⟨o, h⟩
    · exact .inl ⟨.inl (e.kp h n), e.on h n⟩
    · exact .inl ⟨.inr ⟨o, e.kp h n⟩, e.on h n⟩
  · exact .inr h
theorem FzT.sq {K : PySem.W.Frag} {a : Addr} {vs : List V} (h : FzT K ρ H a vs) : SqT K H a vs := .inl (.inl h.1)
theorem FzL.sq {K : PySem.W.Frag} {a : Addr} {vs : List V} (h : FzL K ρ H a vs) : SqL K H a vs := by
  rcases h with ⟨h, _⟩ | h
  · exact .inl h
  · exact .inr h
theorem slt_mono {a C dx : Addr} {c : Nat} {vs : List (Option V)} (s : InsH H C c a dx vs) (h1 : H a = H' a ∨ ∃ o, H a = some o ∧ H' a = some o) (h2 : ∀ o, H dx = some o → H' dx = some o) : InsH H' C c a dx vs := by
  have k : ∀ o, H a = some o → H' a = some o := fun o q => by
    rcases h1 with h1 | ⟨o', q1, q2⟩
    · rw [← h1]; exact q
    · rw [q] at q1; cases q1; exact q2
  cases s with
  | sl hp s =>
    rcases s with ⟨s, t⟩ | ⟨s, t⟩
    · exact .sl hp (.inl ⟨k _ s, t⟩)
    · exact .sl hp (.inr ⟨k _ s, h2 _ t⟩)
  | pl hp s n m l => exact .pl hp (k _ s) n m l
mutual
theorem VRel.mono (e : Ext ρ H ρ' H') : ∀ {t : Bool} {x : AV} {v : V}, VRel G ρ H t x v → VRel G ρ' H' t x v
  | _, _, _, .non => .non
  | _, _, _, .bl => .bl
  | _, _, _, .int => .int
  | _, _, _, .str => .str
  | _, _, _, .tup h t => .tup (h.mono e) (VRels.mono e t)
  | _, _, _, .lst h n t => .lst (e.kp h n) (e.on h n) (VRels.mono e t)
  | _, _, _, .scr h t => .scr (h.mono e) (VRels.mono e t)
  | _, _, _, .obj s n1 n2 d t => by
    obtain ⟨o, hd, nd⟩ := d
    obtain ⟨oa, ha, na⟩ := slt_nd s
    exact .obj (slt_mono s (.inr ⟨oa, ha, e.kp ha n1 na⟩) fun o' q => e.kp q n2 (by rw [hd] at q; cases q; exact nd)) (e.on ha n1) (e.on hd n2) ⟨o, e.kp hd n2 nd, nd⟩ (FRels.mono e t)
  | _, _, _, .dct h n t => by
    obtain ⟨o, ha⟩ := h.full
    exact .dct (h.mono (e.lat fun z => n (.inl z))) (e.on ha n) (VRels.mono e t)
  | _, _, _, .ref h => .ref (e.get h)
  | _, _, _, .mix h t => .mix (h.mono e) (VRels.mono e t)
  | _, _, _, .fn => .fn
  | _, _, _, .ty => .ty
  | _, _, _, .cls => .cls
theorem VRels.mono (e : Ext ρ H ρ' H') : ∀ {t : Bool} {x : List AV} {v : List V}, VRels G ρ H t x v → VRels G ρ' H' t x v
  | _, _, _, .nil => .nil
  | _, _, _, .cons h t => .cons (VRel.mono e h) (VRels.mono e t)
theorem FRels.mono (e : Ext ρ H ρ' H') : ∀ {t : Bool} {x : List AV} {v : List (Option V)}, FRels G ρ H t x v → FRels G ρ' H' t x v
  | _, _, _, .nil => .nil
  | _, _, _, .und t => .und (FRels.mono e t)
  | _, _, _, .undn t => .undn (FRels.mono e t)
  | _, _, _, .cons h t => .cons (VRel.mono e h) (FRels.mono e t)
end
variable {t : Bool}
theorem VRels.length : ∀ {x : List AV} {v : List V}, VRels G ρ H t x v → x.length = v.length
  | _, _, .nil => rfl
  | _, _, .cons _ q => by simp [VRels.length q]
theorem VRels.get : ∀ {xs : List AV} {vs : List V} {i : Nat} {x : AV}, VRels G ρ H t xs vs → xs[i]? = some x → ∃ v, vs[i]? = some v ∧ VRel G ρ H t x v
  | _, _, _, _, .nil, h => by simp at h
  | _, _, 0, _, .cons h q, e => by simp at e; subst e; exact ⟨_, rfl, h⟩
  | _, _, i + 1, x, .cons h q, e => by
    obtain ⟨v, h1, h2⟩ := VRels.get (i := i) (x := x) q (by simpa using e)
    exact ⟨v, by simpa using h1, h2⟩
theorem VRels.append : ∀ {xs ys : List AV} {us vs : List V}, VRels G ρ H t xs us → VRels G ρ H t ys vs → VRels G ρ H t (xs ++ ys) (us ++ vs)
  | _, _, _, _, .nil, s => s
  | _, _, _, _, .cons h q, s => .cons h (VRels.append q s)
theorem VRels.take : ∀ {xs : List AV} {us : List V} (n : Nat), VRels G ρ H t xs us → VRels G ρ H t (xs.take n) (us.take n)
  | _, _, 0, _ => .nil
  | _, _, _ + 1, .nil => .nil
  | _, _, n + 1, .cons h q => .cons h (VRels.take n q)
theorem VRels.drop : ∀ {xs : List AV} {us : List V} (n : Nat), VRels G ρ H t xs us → VRels G ρ H t (xs.drop n) (us.drop n)
  | _, _, 0, h => h
  | _, _, _ + 1, .nil => .nil
  | _, _, n + 1, .cons h q => VRels.drop n q
theorem VRels.reverse : ∀ {xs : List AV} {us : List V}, VRels G ρ H t xs us → VRels G ρ H t xs.reverse us.reverse
  | _, _, .nil => .nil
  | _, _, .cons h q => by
    rw [List.reverse_cons, List.reverse_cons]
    exact (VRels.reverse q).append (.cons h .nil)
theorem VRels.set {y : AV} {w : V} (r : VRel G ρ H t y w) : ∀ {xs : List AV} {us : List V} (n : Nat), VRels G ρ H t xs us → VRels G ρ H t (xs.set n y) (us.set n w)
  | _, _, _, .nil => .nil
  | _, _, 0, .cons h q => .cons r q
  | _, _, n + 1, .cons h q => .cons h (VRels.set r n q)
mutual
theorem VRel.wk : ∀ {t : Bool} {x : AV} {v : V}, VRel G ρ H t x v → VRel G ρ H false x v
  | _, _, _, .non => .non
  | _, _, _, .bl => .bl
  | _, _, _, .int => .int
  | _, _, _, .str => .str
  | _, _, _, .tup h t => .tup h t
  | _, _, _, .lst h n t => .lst h n t
  | _, _, _, .scr h t => .scr h t
  | _, _, _, .obj s n1 n2 d t => .obj s n1 n2 d t
  | _, _, _, .dct h n t => .dct h n t
  | _, _, _, .ref h => .ref h
  | _, _, _, .mix h t => .mix h t
  | _, _, _, .fn => .fn
  | _, _, _, .ty => .ty
  | _, _, _, .cls => .cls
theorem VRels.wk : ∀ {t : Bool} {x : List AV} {v : List V}, VRels G ρ H t x v → VRels G ρ H false x v
  | _, _, _, .nil => .nil
  | _, _, _, .cons h t => .cons (VRel.wk h) (VRels.wk t)
end
def isF : AV → Bool
  | .ref _ => false
  | .mix _ => false
  | .und => false
  | _ => true
def allF : List AV → Bool
  | [] => true
  | x :: r => (match isF x with
    | true => allF r
    | false => false)
theorem VRel.fz {x : AV} {v : V} (h : VRel G ρ H t x v) (e : isF x = true) : VRel G ρ H true x v := by
  cases h with
  | non => exact .non
  | bl => exact .bl
  | int => exact .int
  | str => exact .str
  | tup h q => exact .tup h q
  | lst h n q => exact .lst h n q
  | scr h q => exact .scr h q
  | obj s n1 n2 d q => exact .obj s n1 n2 d q
  | dct h n q => exact .dct h n q
  | ref h => cases e
  | mix h q => cases e
  | fn => exact .fn
  | ty => exact .ty
  | cls => exact .cls
theorem VRels.fz : ∀ {xs : List AV} {vs : List V}, VRels G ρ H t xs vs → allF xs = true → VRels G ρ H true xs vs
  | _, _, .nil, _ => .nil
  | x :: xs, _, .cons h q, e => by
    unfold allF at e
    cases f : isF x with
    | true => rw [f] at e; exact .cons (h.fz f) (VRels.fz q e)
    | false => rw [f] at e; cases e
/-- a tuple of these -/
def mkT (xs : List AV) : AV := match allF xs with
  | true => .tup xs
  | false => .mix xs
theorem VRel.mkT {xs : List AV} {a : Addr} {vs : List V} (h : FzT G.K ρ H a vs) (q : VRels G ρ H false xs vs) : VRel G ρ H false (mkT xs) (.ref a) := by
  unfold Ev.mkT
  cases e : allF xs with
  | true => exact .tup h (q.fz e)
  | false => exact .mix h q
end
/-- the slots -/
inductive ERel (G : Gl) (ρ : Rho) (H : Hp) : En → L2.St → Prop
  | nil : ERel G ρ H [] []
  | und {e o σ} : ERel G ρ H e σ → ERel G ρ H (.und :: e) (o :: σ)
  | cons {x v e σ} : VRel G ρ H false x v → ERel G ρ H e σ → ERel G ρ H (x :: e) (some v :: σ)
section
variable {G : Gl} {ρ ρ' : Rho} {H H' : Hp}
theorem ERel.mono (x : Ext ρ H ρ' H') : ∀ {e : En} {σ : L2.St}, ERel G ρ H e σ → ERel G ρ' H' e σ
  | _, _, .nil => .nil
  | _, _, .und t => .und (ERel.mono x t)
  | _, _, .cons h t => .cons (h.mono x) (ERel.mono x t)
theorem ERel.get : ∀ {e : En} {σ : L2.St} {i : Nat} {x : AV}, ERel G ρ H e σ → e[i]? = some x → x ≠ .und → ∃ v, σ[i]? = some (some v) ∧ VRel G ρ H false x v
  | _, _, _, _, .nil, h, _ => by simp at h
  | _, _, 0, _, .und t, h, n => by simp at h; exact absurd h.symm n
  | _, _, 0, _, .cons r t, h, n => by simp at h; subst h; exact ⟨_, rfl, r⟩
  | _, _, i + 1, _, .und t, h, n => by
    obtain ⟨v, a, b⟩ := ERel.get t (by simpa using h) n
    exact ⟨v, by simpa using a, b⟩
  | _, _, i + 1, _, .cons r t, h, n => by
    obtain ⟨v, a, b⟩ := ERel.get t (by simpa using h) n
    exact ⟨v, by simpa using a, b⟩
theorem ERel.set {x : AV} {v : V} (r : VRel G ρ H false x v) : ∀ {e : En} {σ : L2.St} (i : Nat), ERel G ρ H e σ → ERel G ρ H (e.set i x) (σ.set i (some v))
  | _, _, _, .nil => .nil
  | _, _, 0, .und t => .cons r t
  | _, _, 0, .cons _ t => .cons r t
  | _, _, i + 1, .und t => .und (ERel.set r i t)
  | _, _, i + 1, .cons h t => .cons h (ERel.set r i t)
end
abbrev Kon (G : Gl) (ρ : Rho) (H : Hp) (Q : VK) (v : AV) (A' : Hs) : Prop := ∀ ρ' H' x, Ext ρ H ρ' H' → Rel G ρ' A' H' → VRel G ρ' H' false v x → Q x H'
def tEh (G : Gl) (vs : List AV) (xs : List V) (c : CE) : TE := fun σ H Q => ∃ ρ A e, Rel G ρ A H ∧ ERel G ρ H e σ ∧ VRels G ρ H false vs xs ∧ ∃ v A', c e A = .ok v A' ∧ Kon G ρ H Q v A'
abbrev tE (G : Gl) (c : CE) : TE := tEh G [] [] c
def tAh (G : Gl) (vs : List AV) (xs : List V) (c : CA) : TA := fun σ H Q => ∃ ρ A e, Rel G ρ A H ∧ ERel G ρ H e σ ∧ VRels G ρ H false vs xs ∧ ∃ ws A', c e A = .ok ws A' ∧ ∀ ρ' H' ys, Ext ρ H ρ' H' → Rel G ρ' A' H' → VRels G ρ' H' false ws ys → Q ys H'
abbrev tA (G : Gl) (c : CA) : TA := tAh G [] [] c
/-- behind a value-level operation -/
def rV (G : Gl) (vs : List AV) (xs : List V) (r : Hs → R) : Hp → VK → Prop := fun H Q => ∃ ρ A, Rel G ρ A H ∧ VRels G ρ H false vs xs ∧ ∃ v A', r A = .ok v A' ∧ Kon G ρ H Q v A'
def R.bind (r : R) (k : AV → Hs → R) : R := match r with
  | .ok v A => k v A
  | .bad => .bad
def RA.bind (r : RA) (k : List AV → Hs → R) : R := match r with
  | .ok v A => k v A
  | .bad => .bad
theorem R.bind_ok {r : R} {k : AV → Hs → R} {v : AV} {A : Hs} (h : r.bind k = .ok v A) : ∃ x B, r = .ok x B ∧ k x B = .ok v A := by
  cases r with
  | ok x B => exact ⟨x, B, rfl, h⟩
  | bad => cases h
theorem RA.bind_ok {r : RA} {k : List AV → Hs → R} {v : AV} {A : Hs} (h : r.bind k = .ok v A) : ∃ x B, r = .ok x B ∧ k x B = .ok v A := by
  cases r with
  | ok x B => exact ⟨x, B, rfl, h⟩
  | bad => cases h
section
variable {G : Gl} {vs : List AV} {xs : List V} {σ : L2.St} {H : Hp} {Q : VK}
theorem tEh.bind {a : CE} {k : AV → CE} (h : tEh G vs xs (fun e A => (a e A).bind fun v A => k v e A) σ H Q) : tEh G vs xs a σ H fun x H1 => ∃ v, tEh G (v :: vs) (x :: xs) (k v) σ H1 Q := by
  obtain ⟨ρ, A, e, r, er, vr, w, A', hc, q⟩ := h
  obtain ⟨v, B, h1, h2⟩ := R.bind_ok hc
  exact ⟨ρ, A, e, r, er, vr, v, B, h1, fun ρ1 H1 x ex r1 vx => ⟨v, ρ1, B, e, r1, er.mono ex, .cons vx (vr.mono ex), w, A', h2, fun ρ2 H2 y ex2 r2 vy => q ρ2 H2 y (ex.trans r1 ex2) r2 vy⟩⟩
theorem tEh.bindA {a : CA} {k : List AV → CE} (h : tEh G vs xs (fun e A => (a e A).bind fun v A => k v e A) σ H Q) : tAh G vs xs a σ H fun ys H1 => ∃ ws, tEh G (ws ++ vs) (ys ++ xs) (k ws) σ H1 Q := by
  obtain ⟨ρ, A, e, r, er, vr, w, A', hc, q⟩ := h
  obtain ⟨v, B, h1, h2⟩ := RA.bind_ok hc
  exact ⟨ρ, A, e, r, er, vr, v, B, h1, fun ρ1 H1 x ex r1 vx => ⟨v, ρ1, B, e, r1, er.mono ex, vx.append (vr.mono ex), w, A', h2, fun ρ2 H2 y ex2 r2 vy => q ρ2 H2 y (ex.trans r1 ex2) r2 vy⟩⟩
theorem tEh.drop {c : CE} {v : AV} {x : V} (h : tEh G (v :: vs) (x :: xs) c σ H Q) : tEh G vs xs c σ H Q := by
  obtain ⟨ρ, A, e, r, er, vr, w⟩ := h
  cases vr with
  | cons _ t => exact ⟨ρ, A, e, r, er, t, w⟩
theorem tEh.toE {c : CE} (h : tEh G vs xs c σ H Q) : tE G c σ H Q := by
  obtain ⟨ρ, A, e, r, er, vr, w⟩ := h
  exact ⟨ρ, A, e, r, er, .nil, w⟩
theorem tEh.toV {r : Hs → R} (h : tEh G vs xs (fun _ A => r A) σ H Q) : rV G vs xs r H Q := by
  obtain ⟨ρ, A, e, r, er, vr, w⟩ := h
  exact ⟨ρ, A, r, vr, w⟩
theorem tEh.imp {c : CE} {Q' : VK} (h : tEh G vs xs c σ H Q) (i : ∀ x H, Q x H → Q' x H) : tEh G vs xs c σ H Q' := by
  obtain ⟨ρ, A, e, r, er, vr, w, A', hc, q⟩ := h
  exact ⟨ρ, A, e, r, er, vr, w, A', hc, fun ρ' H' x a b c => i _ _ (q ρ' H' x a b c)⟩
end
/-- an expression is evaluated so -/
abbrev PEc (G : Gl) (X : Cx) (e : Expr) (c : CE) : Prop := PE X e (tE G c)
abbrev PAc (G : Gl) (X : Cx) (es : List Expr) (c : CA) : Prop := PA X es (tA G c)
theorem _root_.L2.PE.imp {X : Cx} {e : Expr} {t u : TE} (h : PE X e t) (i : ∀ σ H Q, u σ H Q → t σ H Q) : PE X e u := ⟨fun pins s σ H Q I q => h.run pins s σ H Q I (i σ H Q q)⟩
theorem _root_.L2.PA.imp {X : Cx} {e : List Expr} {t u : TA} (h : PA X e t) (i : ∀ σ H Q, u σ H Q → t σ H Q) : PA X e u := ⟨fun p pins s σ H Q I q => h.run p pins s σ H Q I (i σ H Q q)⟩
theorem _root_.L2.PT.imp {X : Cx} {e : Expr} {t u : TT} (h : PT X e t) (i : ∀ σ H Q, u σ H Q → t σ H Q) : PT X e u := ⟨fun pins s σ H Q I q => h.run pins s σ H Q I (i σ H Q q)⟩
theorem _root_.L2.PW.imp {X : Cx} {e : Expr} {t u : TT} (h : PW X e t) (i : ∀ σ H Q, u σ H Q → t σ H Q) : PW X e u := ⟨fun wh pins s σ H Q I q => h.run wh pins s σ H Q I (i σ H Q q)⟩
theorem _root_.L2.PS.imp {X : Cx} {e : Stmt} {t u : TS} (h : PS X e t) (i : ∀ D σ H, u D σ H → t D σ H) : PS X e u := ⟨fun pins s σ H D I q => h.run pins s σ H D I (i D σ H q)⟩
theorem _root_.L2.PSs.imp {X : Cx} {e : List Stmt} {t u : TS} (h : PSs X e t) (i : ∀ D σ H, u D σ H → t D σ H) : PSs X e u := ⟨fun pins s σ H D I q => h.run pins s σ H D I (i D σ H q)⟩
end Ev
namespace Ev
open PySem PySem.Spec PyProof.Rows L2
section
variable {G : Gl} {ρ : Rho} {A : Hs} {H H' : Hp}
theorem TabR.mono {P : Addr} {q : Str} (h : TabR ρ H P q) {ρ' : Rho} (e : Ext ρ H ρ' H') (h1 : H' P = H P) : TabR ρ' H' P q := by
  obtain ⟨ps, a, b, d⟩ := h
  exact ⟨ps, h1.trans a, b, fun pos cv hc => let ⟨c, e1, e2, e3⟩ := d pos cv hc; ⟨c, e1, e.kp e2 e3, e.on e2 e3⟩⟩
theorem CRel.mono {c : Cell} {p : Addr × Addr} (h : CRel G ρ H c p) {ρ' : Rho} (e : Ext ρ H ρ' H') (h1 : H' p.1 = H p.1) (h2 : H' p.2 = H p.2) : CRel G ρ' H' c p := by
  cases c with
  | lst xs => obtain ⟨a, vs, b, d⟩ := h; exact ⟨a, vs, h1.trans b, d.mono e⟩
  | ins c fs =>
    obtain ⟨a, ⟨o, b, nt⟩, vs, d, f⟩ := h
    exact ⟨a, ⟨o, h2.trans b, nt⟩, vs, slt_mono d (.inl h1.symm) (fun o q => h2.trans q), f.mono e⟩
  | dct b ks xs => obtain ⟨a, vs, b, d⟩ := h; exact ⟨a, vs, b.mono fun o q => h1.trans q, d.mono e⟩
  | tab i => obtain ⟨a, b, d⟩ := h; exact ⟨a, b, d.mono e h1⟩
theorem onC_of {i : Nat} {p : Addr × Addr} (hp : ρ.c[i]? = some p) : ρ.onC p.1 ∧ ρ.onC p.2 := ⟨⟨p, List.mem_of_getElem? hp, .inl rfl⟩, ⟨p, List.mem_of_getElem? hp, .inr rfl⟩⟩
theorem Rel.keep (r : Rel G ρ A H) (e : Ext ρ H ρ H') (h : ∀ a, ρ.onC a → H' a = H a) : Rel G ρ A H' :=
  ⟨r.len, r.pw, fun i c p hc hp => (r.cell i c p hc hp).mono e (h _ (onC_of hp).1) (h _ (onC_of hp).2), fun a ha => by
    obtain ⟨n, o, q, nt⟩ := r.pv a ha
    exact ⟨n, o, e.pv q n ha, nt⟩⟩
theorem Rel.not_on (r : Rel G ρ A H) {p : Addr} (hp : H p = none) : ¬ ρ.on p := fun h => by
  obtain ⟨o, q⟩ := r.full h
  rw [hp] at q; cases q
theorem ext_new {p : Addr} (hp : H p = none) (o : HO) : Ext ρ H ρ (upd H p o) := ⟨⟨[], by simp⟩, fun a u h _ => .inl (by rw [upd_ne (ne_of_none h hp)]; exact h)⟩
theorem Rel.new (r : Rel G ρ A H) {p : Addr} (hp : H p = none) (o : HO) : Rel G ρ A (upd H p o) :=
  r.keep (ext_new hp o) fun a ha => by
    obtain ⟨u, q⟩ := r.fullC ha
    rw [upd_ne (ne_of_none q hp)]
/-- a new tuple, a new list that stays as it is -/
theorem Kon.tup {Q : VK} {xs : List AV} {vs : List V} (r : Rel G ρ A H) (k : Kon G ρ H Q (.tup xs) A) (h : VRels G ρ H true xs vs) : ∀ p, H p = none → Q (.ref p) (upd H p (.tup vs)) := fun p hp =>
  k ρ _ _ (ext_new hp _) (r.new hp _) (.tup ⟨upd_same, r.not_on hp⟩ (h.mono (ext_new hp _)))
theorem Kon.mkT {Q : VK} {xs : List AV} {vs : List V} (r : Rel G ρ A H) (k : Kon G ρ H Q (mkT xs) A) (h : VRels G ρ H false xs vs) : ∀ p, H p = none → Q (.ref p) (upd H p (.tup vs)) := fun p hp =>
  k ρ _ _ (ext_new hp _) (r.new hp _) (.mkT ⟨upd_same, r.not_on hp⟩ (h.mono (ext_new hp _)))
theorem Kon.lst {Q : VK} {xs : List AV} {vs : List V} (r : Rel G ρ A H) (k : Kon G ρ H Q (.lst xs) A) (h : VRels G ρ H true xs vs) : ∀ p, H p = none → Q (.ref p) (upd H p (.lst vs)) := fun p hp =>
  k ρ _ _ (ext_new hp _) (r.new hp _) (.lst upd_same (r.not_on hp) (h.mono (ext_new hp _)))
/-- a new list, as a cell -/
theorem ext_push {p : Addr} (hp : H p = none) (o : HO) : Ext ρ H (ρ.push (p, p)) (upd H p o) := ⟨⟨[(p, p)], rfl, rfl, fun q hq => by simp at hq; subst hq; exact ⟨hp, hp⟩⟩, fun a u h _ => .inl (by rw [upd_ne (ne_of_none h hp)]; exact h)⟩
theorem Rel.pushC (r : Rel G ρ A H) {q : Addr × Addr} {c : Cell} (hn : ∀ a, ρ.onC a → H' a = H a) (e : Ext ρ H (ρ.push q) H') (h1 : ¬ ρ.on q.1) (h2 : ¬ ρ.on q.2) (hc : CRel G (ρ.push q) H' c q) : Rel G (ρ.push q) (A ++ [c]) H' := by
  refine ⟨by simp [Rho.push, r.len], ?_, fun i c' p ha hr => ?_, fun a ha => ?_⟩
  · refine List.pairwise_append.mpr ⟨r.pw, List.pairwise_singleton _ _, fun p hp p' hp' => ?_⟩
    simp at hp'; subst hp'
    exact ⟨fun z => h1 (.inl ⟨p, hp, .inl z.symm⟩), fun z => h2 (.inl ⟨p, hp, .inl z.symm⟩), fun z => h1 (.inl ⟨p, hp, .inr z.symm⟩), fun z => h2 (.inl ⟨p, hp, .inr z.symm⟩)⟩
  · unfold Rho.push at hr
    dsimp only at hr
    by_cases hi : i < ρ.c.length
    · rw [List.getElem?_append_left hi] at hr
      rw [List.getElem?_append_left (by rw [← r.len]; exact hi)] at ha
      exact (r.cell i c' p ha hr).mono e (hn _ (onC_of hr).1) (hn _ (onC_of hr).2)
    · rw [List.getElem?_append_right (by omega)] at hr
      rw [List.getElem?_append_right (by rw [← r.len]; omega)] at ha
      have e0 : i - ρ.c.length = 0 := by
        have := (List.getElem?_eq_some_iff.mp hr).1
        simp at this; omega
      rw [e0] at hr
      rw [← r.len, e0] at ha
      simp at hr ha
      subst hr ha
      exact hc
  · obtain ⟨n, o, q', nt⟩ := r.pv a ha
    refine ⟨?_, o, e.pv q' n ha, nt⟩
    rintro ⟨p, hp, z⟩
    rcases List.mem_append.mp hp with hp | hp
    · exact n ⟨p, hp, z⟩
    · simp at hp; subst hp
      rcases z with rfl | rfl
      · exact h1 (.inr ha)
      · exact h2 (.inr ha)
theorem Rel.push (r : Rel G ρ A H) {p : Addr} (hp : H p = none) {xs : List AV} {vs : List V} (h : VRels G ρ H false xs vs) : Rel G (ρ.push (p, p)) (A ++ [.lst xs]) (upd H p (.lst vs)) :=
  r.pushC (fun a ha => by
    obtain ⟨u, q⟩ := r.fullC ha
    rw [upd_ne (ne_of_none q hp)]) (ext_push hp _) (r.not_on hp) (r.not_on hp) ⟨rfl, vs, upd_same, h.mono (ext_push hp _)⟩
theorem push_at (r : Rel G ρ A H) (q : Addr × Addr) : (ρ.push q).c[A.length]? = some q := by
  rw [← r.len]; simp [Rho.push]
theorem Kon.cell {Q : VK} {xs : List AV} {vs : List V} (r : Rel G ρ A H) (k : Kon G ρ H Q (.ref A.length) (A ++ [.lst xs])) (h : VRels G ρ H false xs vs) : ∀ p, H p = none → Q (.ref p) (upd H p (.lst vs)) := fun p hp =>
  k _ _ _ (ext_push hp _) (r.push hp h) (.ref (p := (p, p)) (push_at r _))
/-- a cell changes -/
theorem ext_on {a : Addr} (h : ρ.onC a) (o : HO) : Ext ρ H ρ (upd H a o) := ⟨⟨[], by simp⟩, fun b u q n => .inl (by rw [upd_ne (show b ≠ a from fun z => n (by rw [z]; exact h))]; exact q)⟩
theorem pw_at : ∀ {l : List (Addr × Addr)} {i j : Nat} {p q : Addr × Addr}, l.Pairwise Apart → l[i]? = some p → l[j]? = some q → i ≠ j → Apart p q := by
  intro l i j p q h hi hj hn
  have h' := List.pairwise_iff_getElem.mp h
  obtain ⟨li, ei⟩ := List.getElem?_eq_some_iff.mp hi
  obtain ⟨lj, ej⟩ := List.getElem?_eq_some_iff.mp hj
  rcases Nat.lt_or_gt_of_ne hn with z | z
  · have := h' i j li lj z
    rw [ei, ej] at this; exact this
  · have := h' j i lj li z
    rw [ei, ej] at this
    exact ⟨fun w => this.1 w.symm, fun w => this.2.2.1 w.symm, fun w => this.2.1 w.symm, fun w => this.2.2.2 w.symm⟩
theorem Rel.setC (r : Rel G ρ A H) {i : Nat} {p : Addr × Addr} {c : Cell} (hp : ρ.c[i]? = some p) (e : Ext ρ H ρ H') (hn : ∀ a, a ≠ p.1 → a ≠ p.2 → H' a = H a) (hc : CRel G ρ H' c p) : Rel G ρ (A.set i c) H' := by
  refine ⟨by simp [r.len], r.pw, fun j c' q ha hr => ?_, fun a ha => ?_⟩
  · by_cases hj : i = j
    · subst hj
      rw [hp] at hr; cases hr
      have hl : i < A.length := by rw [← r.len]; exact (List.getElem?_eq_some_iff.mp hp).1
      rw [List.getElem?_set_self hl] at ha
      cases ha
      exact hc
    · rw [List.getElem?_set_ne hj] at ha
      obtain ⟨a1, a2, a3, a4⟩ := pw_at r.pw hr hp (fun z => hj z.symm)
      exact (r.cell j c' q ha hr).mono e (hn _ a1 a2) (hn _ a3 a4)
  · obtain ⟨n, o, q, nt⟩ := r.pv a ha
    exact ⟨n, o, e.pv q n ha, nt⟩
theorem Rel.set (r : Rel G ρ A H) {i : Nat} {p : Addr × Addr} (hp : ρ.c[i]? = some p) (h2 : p.2 = p.1) {xs : List AV} {vs : List V} (h : VRels G ρ H false xs vs) : Rel G ρ (A.set i (.lst xs)) (upd H p.1 (.lst vs)) :=
  r.setC hp (ext_on (onC_of hp).1 _) (fun a z _ => upd_ne z) ⟨h2, vs, upd_same, h.mono (ext_on (onC_of hp).1 _)⟩
theorem Rel.at {i : Nat} {a : Addr} {c : Cell} (r : Rel G ρ A H) (hc : A[i]? = some c) (h : VRel G ρ H false (.ref i) (.ref a)) : ∃ p, ρ.c[i]? = some p ∧ p.1 = a ∧ CRel G ρ H c p := by
  cases h with
  | ref hp => exact ⟨_, hp, rfl, r.cell i c _ hc hp⟩
end
end Ev
namespace Ev
open PySem PySem.Spec PyProof.Rows L2
def cVar (i : Nat) : CE := fun e A => match e[i]? with
  | some .und => .bad
  | some v => .ok v A
  | none => .bad
def cC (v : AV) : CE := fun _ A => .ok v A
def cBin (f : AV → AV → Hs → R) (a b : CE) : CE := fun e A => (a e A).bind fun x A => (b e A).bind fun y A => f x y A
def cUn (f : AV → Hs → R) (a : CE) : CE := fun e A => (a e A).bind fun x A => f x A
def onB (x : AV) (k : Bool → R) : R := match x with
  | .bl b => k b
  | _ => .bad
def pick {α : Type} (b : Bool) (x y : α) : α := match b with
  | true => x
  | false => y
def cIf (t a b : CE) : CE := fun e A => (t e A).bind fun x A => onB x fun c => pick c (a e A) (b e A)
def cAnd (a b : CE) : CE := fun e A => (a e A).bind fun x A => onB x fun c => pick c (b e A) (.ok (.bl false) A)
def cOr (a b : CE) : CE := fun e A => (a e A).bind fun x A => onB x fun c => pick c (.ok (.bl true) A) (b e A)
def cNot (a : CE) : CE := fun e A => (a e A).bind fun x A => onB x fun c => .ok (.bl !c) A
def aNil : CA := fun _ A => .ok [] A
def aCons (a : CE) (r : CA) : CA := fun e A => match a e A with
  | .ok v A => (match r e A with
    | .ok vs A => .ok (v :: vs) A
    | .bad => .bad)
  | .bad => .bad
def cArgs (f : List AV → Hs → R) (a : CA) : CE := fun e A => (a e A).bind fun xs A => f xs A
def cTup (a : CA) : CE := cArgs (fun xs A => if xs.length ≤ 16777216 then .ok (mkT xs) A else .bad) a
def cLst (a : CA) : CE := cArgs (fun xs A => if xs.length ≤ 16777216 then pick (allF xs) (.ok (.lst xs) A) .bad else .bad) a
def cLstM (a : CA) : CE := cArgs (fun xs A => if xs.length ≤ 16777216 then .ok (.ref A.length) (A ++ [.lst xs]) else .bad) a
section
variable {G : Gl} {X : Cx} {a b c : Expr} {ca cb cc : CE} {pos : Pos} {vs : List AV} {xs : List V} {σ : L2.St} {H : Hp} {Q : VK}
theorem pec_var {i : Nat} {x : Str} (hN : X.N[i]? = some x) (hv : Vis X.env.scope x) (hd : (x == ("__debug__" : Str)) = false := by decide) (hcd : (x == ("__classdict__" : Str)) = false := by decide) : PEc G X (.Name x pos) (cVar i) := by
  refine (pe_var hN hv hd hcd).imp fun σ H Q h => ?_
  obtain ⟨ρ, A, e, r, er, vr, w, A', hc, q⟩ := h
  unfold cVar at hc
  split at hc
  · cases hc
  · rename_i v hn hv'
    cases hc
    obtain ⟨u, h1, h2⟩ := er.get hv' hn
    exact ⟨u, h1, q ρ H u (Ext.refl _ _) r h2⟩
  · cases hc
theorem tE_const {v : AV} {u : V} (h : tE G (cC v) σ H Q) (r : ∀ ρ H, VRel G ρ H false v u) : Q u H := by
  obtain ⟨ρ, A, e, rl, er, vr, w, A', hc, q⟩ := h
  cases hc
  exact q ρ H u (Ext.refl _ _) rl (r _ _)
theorem pec_int {i j} : PEc G X (.Constant (.int i) j pos) (cC (.int i)) := pe_int.imp fun σ H Q h => tE_const h fun _ _ => .int
theorem pec_bl {i j} : PEc G X (.Constant (.bool i) j pos) (cC (.bl i)) := pe_bl.imp fun σ H Q h => tE_const h fun _ _ => .bl
theorem pec_non {j} : PEc G X (.Constant .none j pos) (cC .non) := pe_non.imp fun σ H Q h => tE_const h fun _ _ => .non
theorem pec_str {i j} : PEc G X (.Constant (.str i) j pos) (cC (.str i)) := pe_str.imp fun σ H Q h => tE_const h fun _ _ => .str
/-- a module's int -/
theorem pec_gint {x : Str} {i : Int} {t : Tok} (hg : L2.Gl X x) (hm : X.mg x = some (.int i t)) (hd : (x == ("__debug__" : Str)) = false := by decide) : PEc G X (.Name x pos) (cC (.int i)) := (pe_glob (v := .int i) hg hm ⟨t, rfl⟩ hd).imp fun σ H Q h => tE_const h fun _ _ => .int
/-- a two-place operation on values -/
def rOp (G : Gl) (f : AV → AV → Hs → R) : R2 := fun x y H Q => ∃ u v, rV G [v, u] [y, x] (f u v) H Q
theorem tE_bin {f : AV → AV → Hs → R} (h : tE G (cBin f ca cb) σ H Q) : tOp (rOp G f) (tE G ca) (tE G cb) σ H Q := by
  refine (tEh.bind h).imp fun x H1 ⟨u, h⟩ => ?_
  exact (tEh.bind h).toE.imp fun y H2 ⟨v, h⟩ => ⟨u, v, h.toV⟩
theorem pec_bin {op : Operator} {f : AV → AV → Hs → R} (ho : OpR X (binaryOp op) (rOp G f)) (ha : PEc G X a ca) (hb : PEc G X b cb) : PEc G X (.BinOp a op b pos) (cBin f ca cb) :=
  (pe_op ho ha hb).imp fun σ H Q h => tE_bin h
theorem pec_cmp {op : CmpOp} {f : AV → AV → Hs → R} (ho : OpR X (compareOp op) (rOp G f)) (ha : PEc G X a ca) (hb : PEc G X b cb) (hm : behindInMarks op b = false) : PEc G X (.Compare a [op] [b] pos) (cBin f ca cb) :=
  (pe_cmpR ho ha hb hm).imp fun σ H Q h => tE_bin h
def rUn (G : Gl) (f : AV → Hs → R) : V → Hp → VK → Prop := fun x H Q => ∃ u, rV G [u] [x] (f u) H Q
theorem tE_un {f : AV → Hs → R} (h : tE G (cUn f ca) σ H Q) : tUn (rUn G f) (tE G ca) σ H Q :=
  (tEh.bind h).imp fun x H1 ⟨u, h⟩ => ⟨u, h.toV⟩
theorem pec_un {op : UnaryOp} {f : AV → Hs → R} (ho : UnR X (unaryOp op) (rUn G f)) (ha : PEc G X a ca) : PEc G X (.UnaryOp op a pos) (cUn f ca) :=
  (pe_un ho ha).imp fun σ H Q h => tE_un h
def tT (G : Gl) (c : CE) : TT := fun σ H Q => tE G c σ H fun x H1 => ∃ b, x = .bl b ∧ Q b H1
abbrev PTc (G : Gl) (X : Cx) (e : Expr) (c : CE) : Prop := PT X e (tT G c)
abbrev PWc (G : Gl) (X : Cx) (e : Expr) (c : CE) : Prop := PW X e (tT G c)
theorem ptc_val (h : PEc G X a ca) (he : ∀ whole, isTrue a X.env whole = (do let v ← whole; standAt a.pos; holding [v] (truthy v)) := by intro _; rfl) : PTc G X a ca := (pt_val h he).imp fun σ H Q h => h
theorem ptc_cmp {op : CmpOp} {f : AV → AV → Hs → R} (ho : OpR X (compareOp op) (rOp G f)) (ha : PEc G X a ca) (hb : PEc G X b cb) (hm : behindInMarks op b = false) : PTc G X (.Compare a [op] [b] pos) (cBin f ca cb) :=
  (pt_cmpR ho ha hb hm).imp fun σ H Q h => tE_bin h
/-- behind a bool -/
theorem tEh.bool {k : Bool → CE} (h : tEh G vs xs (fun e A => (ca e A).bind fun x A => onB x fun b => k b e A) σ H Q) : tEh G vs xs ca σ H fun x H1 => ∃ b, x = .bl b ∧ tEh G vs xs (k b) σ H1 Q := by
  refine (tEh.bind h).imp fun x H1 ⟨u, ρ, A, e, r, er, vr, w, A', hc, q⟩ => ?_
  cases vr with
  | cons h1 h2 =>
    cases h1 with
    | bl => exact ⟨_, rfl, ρ, A, e, r, er, h2, w, A', hc, q⟩
    | _ => cases hc
theorem tE_or (h : tE G (cOr ca cb) σ H Q) : tE G ca σ H fun x H1 => ∃ b, x = .bl b ∧ if b = true then Q (.bl true) H1 else tE G cb σ H1 Q :=
  (tEh.bool (k := fun c e A => pick c (.ok (.bl true) A) (cb e A)) h).imp fun x H1 ⟨b, e, h⟩ => ⟨b, e, by
    cases b with
    | true => exact tE_const h fun _ _ => .bl
    | false => exact h⟩
theorem tE_and (h : tE G (cAnd ca cb) σ H Q) : tE G ca σ H fun x H1 => ∃ b, x = .bl b ∧ if b = true then tE G cb σ H1 Q else Q (.bl false) H1 :=
  (tEh.bool (k := fun c e A => pick c (cb e A) (.ok (.bl false) A)) h).imp fun x H1 ⟨b, e, h⟩ => ⟨b, e, by
    cases b with
    | false => exact tE_const h fun _ _ => .bl
    | true => exact h⟩
theorem tE_not (h : tE G (cNot ca) σ H Q) : tE G ca σ H fun x H1 => ∃ b, x = .bl b ∧ Q (.bl !b) H1 :=
  (tEh.bool (k := fun c e A => .ok (.bl !c) A) h).imp fun x H1 ⟨b, e, h⟩ => ⟨b, e, tE_const h fun _ _ => .bl⟩
theorem tE_if (h : tE G (cIf cc ca cb) σ H Q) : tE G cc σ H fun x H1 => ∃ b, x = .bl b ∧ if b = true then tE G ca σ H1 Q else tE G cb σ H1 Q :=
  (tEh.bool (k := fun c e A => pick c (ca e A) (cb e A)) h).imp fun x H1 ⟨b, e, h⟩ => ⟨b, e, by
    cases b with
    | false => exact h
    | true => exact h⟩
variable {rest : List Expr}
theorem ptc_not (ha : PTc G X a ca) : PTc G X (.UnaryOp .Not a pos) (cNot ca) := (pt_not ha).imp fun σ H Q h => (tE_not h).imp fun x H1 ⟨b, e, b', e', q⟩ => ⟨b, e, by cases e'; exact q⟩
theorem pec_not (ha : PEc G X a ca) : PEc G X (.UnaryOp .Not a pos) (cNot ca) := (pe_not ha).imp fun σ H Q h => tE_not h
theorem pwc_and1 (ha : PTc G X a ca) : PWc G X (.BoolOp .And [a] pos) ca := pw_and1 ha
theorem pwc_or1 (ha : PTc G X a ca) : PWc G X (.BoolOp .Or [a] pos) ca := pw_or1 ha
theorem pwc_and (ha : PTc G X a ca) (hb : PWc G X (.BoolOp .And (b :: rest) pos) cb) : PWc G X (.BoolOp .And (a :: b :: rest) pos) (cAnd ca cb) :=
  (pw_and ha hb).imp fun σ H Q h => (tE_and h).imp fun x H1 ⟨b, e, q⟩ => ⟨b, e, by
    cases b with
    | true => exact q
    | false => obtain ⟨b', e', q⟩ := q; cases e'; exact q⟩
theorem pwc_or (ha : PTc G X a ca) (hb : PWc G X (.BoolOp .Or (b :: rest) pos) cb) : PWc G X (.BoolOp .Or (a :: b :: rest) pos) (cOr ca cb) :=
  (pw_or ha hb).imp fun σ H Q h => (tE_or h).imp fun x H1 ⟨b, e, q⟩ => ⟨b, e, by
    cases b with
    | false => exact q
    | true => obtain ⟨b', e', q⟩ := q; cases e'; exact q⟩
theorem ptc_bool (h : PWc G X a ca) : PTc G X a ca := h.pt
theorem pec_one {op} (ha : PEc G X a ca) : PEc G X (.BoolOp op [a] pos) ca := pe_one ha
theorem pec_and (ha : PEc G X a ca) (hb : PEc G X (.BoolOp .And (b :: rest) pos) cb) : PEc G X (.BoolOp .And (a :: b :: rest) pos) (cAnd ca cb) := (pe_and ha hb).imp fun σ H Q h => tE_and h
theorem pec_if (hc : PTc G X c cc) (ha : PEc G X a ca) (hb : PEc G X b cb) : PEc G X (.IfExp c a b pos) (cIf cc ca cb) := (pe_ifExp hc ha hb).imp fun σ H Q h => tE_if h
variable {e : Expr} {es : List Expr} {ce : CE} {cr : CA}
theorem pac_nil : PAc G X [] aNil := pa_nil.imp fun σ H Q h => by
  obtain ⟨ρ, A, e, r, er, vr, w, A', hc, q⟩ := h
  cases hc
  exact q ρ H [] (Ext.refl _ _) r .nil
theorem tA_cons {Q : List V → Hp → Prop} (h : tA G (aCons ce cr) σ H Q) : tCons (tE G ce) (tA G cr) σ H Q := by
  obtain ⟨ρ, A, e, r, er, vr, w, A', hc, q⟩ := h
  unfold aCons at hc
  cases h1 : ce e A with
  | bad => rw [h1] at hc; cases hc
  | ok v B =>
    rw [h1] at hc
    dsimp only at hc
    cases h2 : cr e B with
    | bad => rw [h2] at hc; cases hc
    | ok us B2 =>
      rw [h2] at hc
      cases hc
      exact ⟨ρ, A, e, r, er, .nil, v, B, h1, fun ρ1 H1 x ex r1 vx => ⟨ρ1, B, e, r1, er.mono ex, .nil, us, _, h2, fun ρ2 H2 ys ex2 r2 vy => q ρ2 H2 _ (ex.trans r1 ex2) r2 (.cons (vx.mono ex2) vy)⟩⟩
theorem pac_cons (ha : PEc G X e ce) (hr : PAc G X es cr) (hs : starEach (e :: es) X.env = (false, eval e X.env) :: starEach es X.env := by rfl) : PAc G X (e :: es) (aCons ce cr) :=
  (pa_cons ha hr hs).imp fun σ H Q h => tA_cons h
/-- an operation on a list of values -/
def rAs (G : Gl) (f : List AV → Hs → R) : List V → Hp → VK → Prop := fun xs H Q => ∃ us, rV G us xs (f us) H Q
theorem tE_args {f : List AV → Hs → R} (h : tE G (cArgs f cr) σ H Q) : tA G cr σ H fun xs H1 => rAs G f xs H1 Q := by
  obtain ⟨ρ, A, e, r, er, vr, ws, A', hc, q⟩ := tEh.bindA h
  refine ⟨ρ, A, e, r, er, vr, ws, A', hc, fun ρ1 H1 ys ex r1 vy => ?_⟩
  obtain ⟨us, h⟩ := q ρ1 H1 ys ex r1 vy
  have h' := h.toV
  rw [List.append_nil, List.append_nil] at h'
  exact ⟨us, h'⟩
theorem line_le {n : Nat} (h : n ≤ 16777216) : n ≤ sizeLine := by rw [sizeLine_eq]; exact h
theorem pec_tup {x1} (h : PAc G X es cr) : PEc G X (.Tuple es x1 pos) (cTup cr) := by
  refine (pe_tup h).imp fun σ H Q h => ?_
  obtain ⟨ρ, A, e, r, er, vr, ws, A', hc, q⟩ := tE_args h
  refine ⟨ρ, A, e, r, er, vr, ws, A', hc, fun ρ1 H1 ys ex r1 vy => ?_⟩
  obtain ⟨us, ρ2, A2, r2, v2, w, A3, hf, k⟩ := q ρ1 H1 ys ex r1 vy
  dsimp only at hf
  split at hf
  · rename_i hl
    cases hf
    exact ⟨by rw [← v2.length]; exact line_le hl, Kon.mkT r2 k v2⟩
  · cases hf
theorem pec_lst (h : PAc G X es cr) : PEc G X (.List es pos) (cLst cr) := by
  refine (pe_lst h).imp fun σ H Q h => ?_
  obtain ⟨ρ, A, e, r, er, vr, ws, A', hc, q⟩ := tE_args h
  refine ⟨ρ, A, e, r, er, vr, ws, A', hc, fun ρ1 H1 ys ex r1 vy => ?_⟩
  obtain ⟨us, ρ2, A2, r2, v2, w, A3, hf, k⟩ := q ρ1 H1 ys ex r1 vy
  dsimp only at hf
  split at hf
  · rename_i hl
    cases hF : allF us with
    | false => rw [hF] at hf; cases hf
    | true =>
      rw [hF] at hf
      cases hf
      exact ⟨by rw [← v2.length]; exact line_le hl, Kon.lst r2 k (v2.fz hF)⟩
  · cases hf
theorem pec_lstM (h : PAc G X es cr) : PEc G X (.List es pos) (cLstM cr) := by
  refine (pe_lst h).imp fun σ H Q h => ?_
  obtain ⟨ρ, A, e, r, er, vr, ws, A', hc, q⟩ := tE_args h
  refine ⟨ρ, A, e, r, er, vr, ws, A', hc, fun ρ1 H1 ys ex r1 vy => ?_⟩
  obtain ⟨us, ρ2, A2, r2, v2, w, A3, hf, k⟩ := q ρ1 H1 ys ex r1 vy
  dsimp only at hf
  split at hf
  · rename_i hl
    cases hf
    exact ⟨by rw [← v2.length]; exact line_le hl, Kon.cell r2 k v2⟩
  · cases hf
end
end Ev
namespace Ev
open PySem PySem.Spec PyProof.Rows L2
def lstOf (A : Hs) : AV → Option (List AV)
  | .lst xs => some xs
  | .ref i => (match A[i]? with
    | some (.lst xs) => some xs
    | _ => none)
  | _ => none
/-- a list or the script; a tuple -/
def sqlOf (A : Hs) : AV → Option (List AV)
  | .scr xs => some xs
  | x => lstOf A x
def seqOf (A : Hs) : AV → Option (List AV)
  | .tup xs => some xs
  | .mix xs => some xs
  | x => sqlOf A x
def optAll {α β : Type} (f : α → Option β) : List α → Option (List β)
  | [] => some []
  | x :: xs => (match f x with
    | some y => (match optAll f xs with
      | some ys => some (y :: ys)
      | none => none)
    | none => none)
def dat : Nat → Hs → AV → Option PyData
  | _, _, .non => some .none
  | _, _, .bl b => some (.bool b)
  | _, _, .int i => some (.int i)
  | _, _, .str x => pick (PyData.strOk x) (some (.str x)) none
  | 0, _, _ => none
  | n + 1, A, .tup xs => (optAll (dat n A) xs).map .tuple
  | n + 1, A, x => (match sqlOf A x with
    | some xs => (optAll (dat n A) xs).map .list
    | none => none)
section
variable {G : Gl} {ρ : Rho} {A : Hs} {H : Hp}
theorem lstOf_ok (r : Rel G ρ A H) {x : AV} {v : V} {xs : List AV} (h : VRel G ρ H false x v) (e : lstOf A x = some xs) : ∃ a vs, v = .ref a ∧ H a = some (.lst vs) ∧ VRels G ρ H false xs vs := by
  cases h with
  | lst h1 _ h2 => cases e; exact ⟨_, _, rfl, h1, h2.wk⟩
  | @ref i p hp =>
    unfold lstOf at e
    dsimp only at e
    split at e
    · rename_i ys hA
      cases e
      obtain ⟨_, vs, h1, h2⟩ := r.cell i _ p hA hp
      exact ⟨_, vs, rfl, h1, h2⟩
    · cases e
  | _ => cases e
theorem sqlOf_ok (r : Rel G ρ A H) {x : AV} {v : V} {xs : List AV} (h : VRel G ρ H false x v) (e : sqlOf A x = some xs) : ∃ a vs, v = .ref a ∧ SqL G.K H a vs ∧ VRels G ρ H false xs vs := by
  cases h with
  | scr h1 h2 => cases e; exact ⟨_, _, rfl, h1.sq, h2.wk⟩
  | lst h1 n h2 => cases e; exact ⟨_, _, rfl, .of h1, h2.wk⟩
  | @ref i p hp =>
    obtain ⟨a, vs, e1, h1, h2⟩ := lstOf_ok r (.ref hp) e
    exact ⟨a, vs, e1, .of h1, h2⟩
  | _ => cases e
theorem seqOf_ok (r : Rel G ρ A H) {x : AV} {v : V} {xs : List AV} (h : VRel G ρ H false x v) (e : seqOf A x = some xs) : ∃ a vs, v = .ref a ∧ (SqL G.K H a vs ∨ SqT G.K H a vs) ∧ VRels G ρ H false xs vs := by
  cases h with
  | tup h1 h2 => cases e; exact ⟨_, _, rfl, .inr h1.sq, h2.wk⟩
  | mix h1 h2 => cases e; exact ⟨_, _, rfl, .inr h1.sq, h2⟩
  | scr h1 h2 => cases e; exact ⟨_, _, rfl, .inl h1.sq, h2.wk⟩
  | lst h1 n h2 => cases e; exact ⟨_, _, rfl, .inl (.of h1), h2.wk⟩
  | @ref i p hp =>
    obtain ⟨a, vs, e1, h1, h2⟩ := lstOf_ok r (.ref hp) e
    exact ⟨a, vs, e1, .inl (.of h1), h2⟩
  | _ => cases e
theorem optAll_dp {f : AV → Option PyData} (hf : ∀ x v d, VRel G ρ H false x v → f x = some d → Dp G.K H v d) : ∀ {xs : List AV} {vs : List V} {ds : List PyData}, VRels G ρ H false xs vs → optAll f xs = some ds → DpAll G.K H vs ds
  | _, _, _, .nil, e => by cases e; exact .nil
  | _, _, ds, .cons h t, e => by
    unfold optAll at e
    split at e
    · rename_i y h1
      split at e
      · rename_i ys h2
        cases e
        exact .cons (hf _ _ _ h h1) (optAll_dp hf t h2)
      · cases e
    · cases e
theorem optAll_shape {f : AV → Option PyData} {n : Nat} (hf : ∀ x d, f x = some d → d.canLay0 = true ∧ d.depth ≤ n) : ∀ {xs : List AV} {ds : List PyData}, optAll f xs = some ds → PyData.canLayAll0 ds = true ∧ PyData.depthAll ds ≤ n
  | [], _, e => by cases e; simp [PyData.canLayAll0, PyData.depthAll]
  | x :: xs, ds, e => by
    unfold optAll at e
    split at e
    · rename_i y h1
      split at e
      · rename_i ys h2
        cases e
        obtain ⟨a1, a2⟩ := hf x y h1
        obtain ⟨b1, b2⟩ := optAll_shape hf h2
        refine ⟨by simp [PyData.canLayAll0, a1, b1], ?_⟩
        show max y.depth (PyData.depthAll ys) ≤ n
        omega
      · cases e
    · cases e
theorem dat_shape : ∀ (n : Nat) (A : Hs) (x : AV) (d : PyData), dat n A x = some d → d.canLay0 = true ∧ d.depth ≤ n
  | n, A, .non, d, e => by unfold dat at e; cases e; simp [PyData.canLay0, PyData.depth]
  | n, A, .bl b, d, e => by unfold dat at e; cases e; simp [PyData.canLay0, PyData.depth]
  | n, A, .int b, d, e => by unfold dat at e; cases e; simp [PyData.canLay0, PyData.depth]
  | n, A, .str b, d, e => by
    unfold dat at e
    cases h : PyData.strOk b with
    | true => rw [h] at e; cases e; simp [PyData.canLay0, PyData.depth, h]
    | false => rw [h] at e; cases e
  | 0, A, .und, d, e => by unfold dat at e; cases e
  | 0, A, .tup _, d, e => by unfold dat at e; cases e
  | 0, A, .lst _, d, e => by unfold dat at e; cases e
  | 0, A, .scr _, d, e => by unfold dat at e; cases e
  | 0, A, .obj _ _, d, e => by unfold dat at e; cases e
  | 0, A, .ref _, d, e => by unfold dat at e; cases e
  | 0, A, .fn _, d, e => by unfold dat at e; cases e
  | 0, A, .ty _, d, e => by unfold dat at e; cases e
  | 0, A, .cls _, d, e => by unfold dat at e; cases e
  | 0, A, .mix _, d, e => by unfold dat at e; cases e
  | 0, A, .dct _ _ _, d, e => by unfold dat at e; cases e
  | n + 1, A, .tup xs, d, e => by
    unfold dat at e
    cases h : optAll (dat n A) xs with
    | none => rw [h] at e; cases e
    | some ds =>
      rw [h] at e; cases e
      obtain ⟨b1, b2⟩ := optAll_shape (dat_shape n A) h
      refine ⟨b1, ?_⟩
      show PyData.depthAll ds + 1 ≤ n + 1
      omega
  | n + 1, A, .und, d, e => by unfold dat at e; cases e
  | n + 1, A, .dct _ _ _, d, e => by unfold dat at e; cases e
  | n + 1, A, .lst xs, d, e => by
    unfold dat at e
    dsimp only [sqlOf, lstOf] at e
    cases h : optAll (dat n A) xs with
    | none => rw [h] at e; cases e
    | some ds =>
      rw [h] at e; cases e
      obtain ⟨b1, b2⟩ := optAll_shape (dat_shape n A) h
      refine ⟨b1, ?_⟩
      show PyData.depthAll ds + 1 ≤ n + 1
      omega
  | n + 1, A, .scr xs, d, e => by
    unfold dat at e
    dsimp only [sqlOf, lstOf] at e
    cases h : optAll (dat n A) xs with
    | none => rw [h] at e; cases e
    | some ds =>
      rw [h] at e; cases e
      obtain ⟨b1, b2⟩ := optAll_shape (dat_shape n A) h
      refine ⟨b1, ?_⟩
      show PyData.depthAll ds + 1 ≤ n + 1
      omega
  | n + 1, A, .ref i, d, e => by
    unfold dat at e
    split at e
    · rename_i xs hx
      cases h : optAll (dat n A) xs with
      | none => rw [h] at e; cases e
      | some ds =>
        rw [h] at e; cases e
        obtain ⟨b1, b2⟩ := optAll_shape (dat_shape n A) h
        refine ⟨b1, ?_⟩
        show PyData.depthAll ds + 1 ≤ n + 1
        omega
    · cases e
  | n + 1, A, .obj _ _, d, e => by unfold dat at e; cases e
  | n + 1, A, .fn _, d, e => by unfold dat at e; cases e
  | n + 1, A, .ty _, d, e => by unfold dat at e; cases e
  | n + 1, A, .cls _, d, e => by unfold dat at e; cases e
  | n + 1, A, .mix _, d, e => by unfold dat at e; cases e
theorem dat_dp (r : Rel G ρ A H) : ∀ (n : Nat) (x : AV) (v : V) (d : PyData), VRel G ρ H false x v → dat n A x = some d → Dp G.K H v d := by
  intro n
  induction n with
  | zero =>
    intro x v d h e
    unfold dat at e
    cases h with
    | non => cases e; exact .non
    | bl => cases e; exact .bl _
    | int => cases e; exact .int _
    | @str _ x =>
      replace e : pick (PyData.strOk x) (some (PyData.str x)) none = some d := e
      cases h : PyData.strOk x with
      | true => rw [h] at e; cases e; exact .str _
      | false => rw [h] at e; cases e
    | _ => cases e
  | succ n ih =>
    intro x v d h e
    have go : ∀ (x : AV), VRel G ρ H false x v → (match sqlOf A x with | some xs => (optAll (dat n A) xs).map PyData.list | none => none) = some d → Dp G.K H v d := by
      intro x h e
      split at e
      · rename_i xs hx
        obtain ⟨a, vs, e1, h1, h2⟩ := sqlOf_ok r h hx
        cases h3 : optAll (dat n A) xs with
        | none => rw [h3] at e; cases e
        | some ds =>
          rw [h3] at e; cases e
          subst e1
          exact .lst h1 (optAll_dp ih h2 h3)
      · cases e
    unfold dat at e
    cases h with
    | non => cases e; exact .non
    | bl => cases e; exact .bl _
    | int => cases e; exact .int _
    | @str _ x =>
      replace e : pick (PyData.strOk x) (some (PyData.str x)) none = some d := e
      cases h : PyData.strOk x with
      | true => rw [h] at e; cases e; exact .str _
      | false => rw [h] at e; cases e
    | @tup _ xs a vs h1 h2 =>
      dsimp only at e
      cases h3 : optAll (dat n A) xs with
      | none => rw [h3] at e; cases e
      | some ds =>
        rw [h3] at e; cases e
        exact .tup h1.sq (optAll_dp ih h2.wk h3)
    | lst h1 h2 h3 => exact go _ (.lst h1 h2 h3) e
    | scr h1 h2 => exact go _ (.scr h1 h2) e
    | ref h1 => exact go _ (.ref h1) e
    | obj => cases e
    | fn => cases e
    | ty => cases e
    | cls => cases e
    | mix => cases e
    | dct => cases e
theorem dat_shaped {n : Nat} {x : AV} {d : PyData} (hn : n ≤ 64) (h : dat n A x = some d) : SeqAt.shaped d = true := by
  obtain ⟨a, b⟩ := dat_shape n A x d h
  unfold SeqAt.shaped
  rw [a, Bool.true_and]
  exact decide_eq_true (by omega)
end
def okB (b : Bool) (A : Hs) : R := .ok (.bl b) A
def okI (i : Int) (A : Hs) : R := .ok (.int i) A
def guard' (b : Bool) (r : R) : R := match b with
  | true => r
  | false => .bad
theorem guard_ok {b : Bool} {r : R} {v : AV} {A : Hs} (h : guard' b r = .ok v A) : b = true ∧ r = .ok v A := by
  cases b with
  | true => exact ⟨rfl, h⟩
  | false => cases h
def on2I (f : Int → Int → Hs → R) (x y : AV) (A : Hs) : R := match x with
  | .int i => (match y with
    | .int j => f i j A
    | _ => .bad)
  | _ => .bad
theorem on2I_ok {f : Int → Int → Hs → R} {x y v : AV} {A B : Hs} (h : on2I f x y A = .ok v B) : ∃ i j, x = .int i ∧ y = .int j ∧ f i j A = .ok v B := by
  unfold on2I at h
  split at h
  · split at h
    · exact ⟨_, _, rfl, rfl, h⟩
    · cases h
  · cases h
def vSub : AV → AV → Hs → R := on2I fun i j A => .ok (.int (i - j)) A
def mulOk (i j : Int) : Bool := (decide (-18446744073709551616 < i) && decide (i < 18446744073709551616)) || (decide (-18446744073709551616 < j) && decide (j < 18446744073709551616))
def vFDiv : AV → AV → Hs → R := on2I fun i j A => guard' (decide (0 < j) && decide (j < 1073741824)) (.ok (.int (i / j)) A)
def vMod : AV → AV → Hs → R := on2I fun i j A => guard' (decide (0 < j)) (.ok (.int (i % j)) A)
def vPow : AV → AV → Hs → R := on2I fun i j A => guard' (decide (0 ≤ j) && decide (j ≤ 1000000) && decide (i.natAbs < 18446744073709551616)) (.ok (.int (i ^ j.toNat)) A)
def vLt : AV → AV → Hs → R := on2I fun i j A => .ok (.bl (decide (i < j))) A
def vLe : AV → AV → Hs → R := on2I fun i j A => .ok (.bl (decide (i ≤ j))) A
def vGt : AV → AV → Hs → R := on2I fun i j A => .ok (.bl (decide (j < i))) A
def vGe : AV → AV → Hs → R := on2I fun i j A => .ok (.bl (decide (j ≤ i))) A
def vNeg (x : AV) (A : Hs) : R := match x with
  | .int i => .ok (.int (-i)) A
  | _ => .bad
def line (n : Nat) : Bool := Nat.ble n 16777216
theorem line_ok {n : Nat} (h : line n = true) : n ≤ sizeLine := line_le (Nat.le_of_ble_eq_true h)
def vCat (x y : AV) (A : Hs) : R := match lstOf A x with
  | some xs => (match lstOf A y with
    | some ys => guard' (line (xs.length + ys.length) && allF (xs ++ ys)) (.ok (.lst (xs ++ ys)) A)
    | none => .bad)
  | none => .bad
def vAdd (x y : AV) (A : Hs) : R := match x with
  | .int i => (match y with
    | .int j => .ok (.int (i + j)) A
    | _ => .bad)
  | .tup xs => (match y with
    | .tup ys => guard' (line (xs.length + ys.length)) (.ok (.tup (xs ++ ys)) A)
    | _ => .bad)
  | .str i => (match y with
    | .str j => guard' (line (i.length + j.length)) (.ok (.str (i ++ j)) A)
    | _ => .bad)
  | x => vCat x y A
def vMul (x y : AV) (A : Hs) : R := match x with
  | .int i => (match y with
    | .int j => guard' (mulOk i j) (.ok (.int (i * j)) A)
    | _ => .bad)
  | x => (match y with
    | .int k => (match lstOf A x with
      | some xs => guard' (decide (-9223372036854775808 ≤ k) && decide (k < 9223372036854775808) && line (xs.length * k.toNat) && allF xs) (.ok (.lst (List.replicate k.toNat xs).flatten) A)
      | none => .bad)
    | _ => .bad)
def on2D (f : PyData → PyData → Hs → R) (x y : AV) (A : Hs) : R := match dat 40 A x with
  | some d => (match dat 40 A y with
    | some e => f d e A
    | none => .bad)
  | none => .bad
theorem on2D_ok {f : PyData → PyData → Hs → R} {x y v : AV} {A B : Hs} (h : on2D f x y A = .ok v B) : ∃ d e, dat 40 A x = some d ∧ dat 40 A y = some e ∧ f d e A = .ok v B := by
  unfold on2D at h
  split at h
  · rename_i d h1
    split at h
    · rename_i e h2
      exact ⟨d, e, h1, h2, h⟩
    · cases h
  · cases h
def vEq : AV → AV → Hs → R := on2D fun d e A => .ok (.bl (PyData.eqv d e)) A
def vNe : AV → AV → Hs → R := on2D fun d e A => .ok (.bl (!PyData.eqv d e)) A
def inD (d e : PyData) : Option Bool := match e with
  | .list ds => some (ds.any fun z => PyData.eqv z d)
  | .tuple ds => some (ds.any fun z => PyData.eqv z d)
  | _ => none
def vIn : AV → AV → Hs → R := on2D fun d e A => match inD d e with
  | some b => .ok (.bl b) A
  | none => .bad
def vNotIn : AV → AV → Hs → R := on2D fun d e A => match inD d e with
  | some b => .ok (.bl (!b)) A
  | none => .bad
def vIsN (x y : AV) (A : Hs) : R := match y with
  | .non => (match x with
    | .non => .ok (.bl true) A
    | .und => .bad
    | _ => .ok (.bl false) A)
  | _ => .bad
def vNotN (x y : AV) (A : Hs) : R := match y with
  | .non => (match x with
    | .non => .ok (.bl false) A
    | .und => .bad
    | _ => .ok (.bl true) A)
  | _ => .bad
section
variable {G : Gl} {X : Cx}
abbrev gl (X : Cx) (fa ca : Nat → Addr) : Gl := ⟨X.K, fa, ca⟩
theorem two {ρ : Rho} {H : Hp} {u v : AV} {x y : V} (h : VRels G ρ H false [v, u] [y, x]) : VRel G ρ H false u x ∧ VRel G ρ H false v y := by
  cases h with
  | cons h1 t =>
    cases t with
    | cons h2 _ => exact ⟨h2, h1⟩
theorem one {ρ : Rho} {H : Hp} {u : AV} {x : V} (h : VRels G ρ H false [u] [x]) : VRel G ρ H false u x := by
  cases h with
  | cons h1 t => exact h1
/-- an operation on ints -/
theorem op2I {f : Value → Value → Sem Value} {g : Int → Int → Hs → R} {r : R2} (ho : OpR X f r)
    (h : ∀ i j H Q ρ A w A', Rel G ρ A H → g i j A = .ok w A' → Kon G ρ H Q w A' → r (.int i) (.int j) H Q) : OpR X f (rOp G (on2I g)) := by
  rintro pins s σ H x y v u Q I rx ry ⟨a, b, ρ, A, rel, vr, w, A', hf, k⟩
  obtain ⟨i, j, rfl, rfl, hf⟩ := on2I_ok hf
  obtain ⟨h1, h2⟩ := two vr
  cases h1
  cases h2
  exact ho pins s σ H _ _ v u Q I rx ry (h i j H Q ρ A w A' rel hf k)
theorem kon0 {ρ : Rho} {H : Hp} {A : Hs} {Q : VK} {v : AV} {x : V} (r : Rel G ρ A H) (k : Kon G ρ H Q v A) (h : VRel G ρ H false v x) : Q x H := k ρ H x (Ext.refl _ _) r h
theorem ov_sub : OpR X (binaryOp .Sub) (rOp G vSub) := op2I op_sub fun i j H Q ρ A w A' r e k => by cases e; exact ⟨i, j, rfl, rfl, kon0 r k .int⟩
theorem ov_fdiv : OpR X (binaryOp .FloorDiv) (rOp G vFDiv) := op2I op_fdiv fun i j H Q ρ A w A' r e k => by
  obtain ⟨hg, e⟩ := guard_ok e
  cases e
  rw [Bool.and_eq_true] at hg
  exact ⟨i, j, rfl, rfl, ⟨of_decide_eq_true hg.1, of_decide_eq_true hg.2⟩, kon0 r k .int⟩
theorem ov_mod : OpR X (binaryOp .Mod) (rOp G vMod) := op2I op_mod fun i j H Q ρ A w A' r e k => by
  obtain ⟨hg, e⟩ := guard_ok e
  cases e
  exact ⟨i, j, rfl, rfl, of_decide_eq_true hg, kon0 r k .int⟩
theorem ov_lt : OpR X (compareOp .Lt) (rOp G vLt) := op2I op_lt fun i j H Q ρ A w A' r e k => by cases e; exact ⟨i, j, rfl, rfl, kon0 r k .bl⟩
theorem ov_le : OpR X (compareOp .LtE) (rOp G vLe) := op2I op_le fun i j H Q ρ A w A' r e k => by cases e; exact ⟨i, j, rfl, rfl, kon0 r k .bl⟩
theorem ov_gt : OpR X (compareOp .Gt) (rOp G vGt) := op2I op_gt fun i j H Q ρ A w A' r e k => by cases e; exact ⟨i, j, rfl, rfl, kon0 r k .bl⟩
theorem ov_neg : UnR X (unaryOp .USub) (rUn G vNeg) := by
  rintro pins s σ H x v Q I rx ⟨a, ρ, A, rel, vr, w, A', hf, k⟩
  have h1 := one vr
  cases h1 with
  | int => cases hf; exact un_neg pins s σ H _ v Q I rx ⟨_, rfl, kon0 rel k .int⟩
  | _ => cases hf
theorem mulOk_ok {i j : Int} (h : mulOk i j = true) : CMul i j := by
  unfold mulOk at h
  simp only [Bool.or_eq_true, Bool.and_eq_true, decide_eq_true_eq] at h
  exact h
theorem ov_cat {pins : List (Addr × Obj)} {s : Shared} {σ : L2.St} {H : Hp} {x y : V} {v u : Value} {Q : VK} {a b w : AV} {ρ : Rho} {A A' : Hs} (I : Inv X pins σ H s) (rx : L2.RelV x v) (ry : L2.RelV y u) (rel : Rel G ρ A H) (h1 : VRel G ρ H false a x) (h2 : VRel G ρ H false b y)
    (hf : vCat a b A = .ok w A') (k : Kon G ρ H Q w A') : wpAny (model X.prog X.w) X.A (binaryOp .Add v u) (EP X pins σ Q) X.xe s := by
  unfold vCat at hf
  split at hf
  · rename_i xs e1
    split at hf
    · rename_i ys e2
      obtain ⟨hg, e⟩ := guard_ok hf
      cases e
      obtain ⟨l, us, rfl, q1, v1⟩ := lstOf_ok rel h1 e1
      obtain ⟨l2, ws, rfl, q2, v2⟩ := lstOf_ok rel h2 e2
      rw [Bool.and_eq_true] at hg
      exact op_cat pins s σ H _ _ v u Q I rx ry ⟨l, l2, us, ws, rfl, rfl, q1, q2, by rw [← v1.length, ← v2.length]; exact line_ok hg.1, Kon.lst rel k ((v1.append v2).fz hg.2)⟩
    · cases hf
  · cases hf
theorem ov_add (fa ca : Nat → Addr) : OpR X (binaryOp .Add) (rOp (gl X fa ca) vAdd) := by
  rintro pins s σ H x y v u Q I rx ry ⟨a, b, ρ, A, rel, vr, w, A', hf, k⟩
  obtain ⟨h1, h2⟩ := two vr
  unfold vAdd at hf
  split at hf
  · split at hf
    · cases h1; cases h2; cases hf
      exact op_add pins s σ H _ _ v u Q I rx ry ⟨_, _, rfl, rfl, kon0 rel k .int⟩
    · cases hf
  · split at hf
    · cases h1 with
      | @tup _ xs a us f1 v1 =>
        cases h2 with
        | @tup _ ys b ws f2 v2 =>
          obtain ⟨hg, e⟩ := guard_ok hf
          cases e
          refine op_catA pins s σ H _ _ v u Q I rx ry ⟨a, b, us, ws, rfl, rfl, f1.sq, f2.sq, by rw [← v1.length, ← v2.length]; exact line_ok hg, fun z => ?_, fun _ z => ?_, fun _ _ => Kon.tup rel k (v1.append v2)⟩
          · subst z
            cases v1
            exact kon0 rel k (.tup f2 v2)
          · subst z
            cases v2
            exact kon0 rel k (by rw [List.append_nil]; exact .tup f1 v1)
    · cases hf
  · split at hf
    · cases h1; cases h2
      obtain ⟨hg, e⟩ := guard_ok hf
      cases e
      exact op_add_str pins s σ H _ _ v u Q I rx ry ⟨_, _, rfl, rfl, line_ok hg, kon0 rel k .str⟩
    · cases hf
  · exact ov_cat I rx ry rel h1 h2 hf k
theorem VRels.rep {t : Bool} {ρ : Rho} {H : Hp} {xs : List AV} {us : List V} (h : VRels G ρ H t xs us) : ∀ n : Nat, VRels G ρ H t (List.replicate n xs).flatten (List.replicate n us).flatten
  | 0 => .nil
  | n + 1 => by
    rw [List.replicate_succ, List.replicate_succ, List.flatten_cons, List.flatten_cons]
    exact h.append (VRels.rep h n)
theorem ov_mul : OpR X (binaryOp .Mult) (rOp G vMul) := by
  rintro pins s σ H x y v u Q I rx ry ⟨a, b, ρ, A, rel, vr, w, A', hf, k⟩
  obtain ⟨h1, h2⟩ := two vr
  unfold vMul at hf
  split at hf
  · split at hf
    · cases h1; cases h2
      obtain ⟨hg, e⟩ := guard_ok hf
      cases e
      exact op_mul pins s σ H _ _ v u Q I rx ry ⟨_, _, rfl, rfl, mulOk_ok hg, kon0 rel k .int⟩
    · cases hf
  · split at hf
    · split at hf
      · rename_i k' _ xs e1
        cases h2
        obtain ⟨hg, e⟩ := guard_ok hf
        cases e
        simp only [Bool.and_eq_true, decide_eq_true_eq] at hg
        obtain ⟨l, us, rfl, q1, v1⟩ := lstOf_ok rel h1 e1
        exact op_rep pins s σ H _ _ v u Q I rx ry ⟨l, _, us, rfl, rfl, q1, hg.1.1.1, hg.1.1.2, by rw [← v1.length]; exact line_ok hg.1.2, Kon.lst rel k ((v1.fz hg.2).rep _)⟩
      · cases hf
    · cases hf
theorem ov_eq (fa ca : Nat → Addr) (hu : X.A.units + 64 < cLine) : OpR X (compareOp .Eq) (rOp (gl X fa ca) vEq) := by
  rintro pins s σ H x y v u Q I rx ry ⟨a, b, ρ, A, rel, vr, w, A', hf, k⟩
  obtain ⟨h1, h2⟩ := two vr
  obtain ⟨d, e, e1, e2, hf⟩ := on2D_ok hf
  cases hf
  exact op_eqD hu pins s σ H _ _ v u Q I rx ry ⟨d, e, dat_dp rel _ _ _ _ h1 e1, dat_dp rel _ _ _ _ h2 e2, dat_shaped (by decide) e1, dat_shaped (by decide) e2, kon0 rel k .bl⟩
theorem ov_ne (fa ca : Nat → Addr) (hu : X.A.units + 64 < cLine) : OpR X (compareOp .NotEq) (rOp (gl X fa ca) vNe) := by
  rintro pins s σ H x y v u Q I rx ry ⟨a, b, ρ, A, rel, vr, w, A', hf, k⟩
  obtain ⟨h1, h2⟩ := two vr
  obtain ⟨d, e, e1, e2, hf⟩ := on2D_ok hf
  cases hf
  exact op_neD hu pins s σ H _ _ v u Q I rx ry ⟨d, e, dat_dp rel _ _ _ _ h1 e1, dat_dp rel _ _ _ _ h2 e2, dat_shaped (by decide) e1, dat_shaped (by decide) e2, kon0 rel k .bl⟩
theorem room_in {A : Around} {ds : List PyData} {d : PyData} (h : SeqAt.shaped d = true) (hu : A.units + 65 < cLine) : A.units + 1 + min (PyData.depthAll ds) d.depth < cLine := by
  have h1 := SeqAt.depth_of_shaped h
  have h2 : min (PyData.depthAll ds) d.depth ≤ d.depth := Nat.min_le_right _ _
  omega
theorem ov_notIn (fa ca : Nat → Addr) (hu : X.A.units + 65 < cLine) : OpR X (compareOp .NotIn) (rOp (gl X fa ca) vNotIn) := by
  rintro pins s σ H x y v u Q I rx ry ⟨a, b, ρ, A, rel, vr, w, A', hf, k⟩
  obtain ⟨h1, h2⟩ := two vr
  obtain ⟨d, e, e1, e2, hf⟩ := on2D_ok hf
  have p1 := dat_dp rel _ _ _ _ h1 e1
  have p2 := dat_dp rel _ _ _ _ h2 e2
  have s1 := dat_shaped (by decide) e1
  have s2 := dat_shaped (by decide) e2
  obtain ⟨as, r1⟩ := Dp.reads I d x v p1 rx
  obtain ⟨bs, r2⟩ := Dp.reads I e y u p2 ry
  cases e with
  | list ds => cases hf; exact SeqAt.notIn_list_reads r2 r1 (SeqAt.canLay_of_shaped s2) (SeqAt.canLay_of_shaped s1) (room_in s1 hu) ⟨.bl _, H, I, rfl, kon0 rel k .bl⟩
  | tuple ds => cases hf; exact SeqAt.notIn_tuple_reads r2 r1 (SeqAt.canLay_of_shaped s2) (SeqAt.canLay_of_shaped s1) (room_in s1 hu) ⟨.bl _, H, I, rfl, kon0 rel k .bl⟩
  | _ => cases hf
end
end Ev
namespace Ev
open PySem PySem.Spec PyProof.Rows L2
def atA (xs : List AV) (i : Int) : Option AV := (ixN xs.length i).bind fun j => xs[j]?
def vIx (x y : AV) (A : Hs) : R := match y with
  | .int i => (match seqOf A x with
    | some xs => (match atA xs i with
      | some .und => .bad
      | some v => .ok v A
      | none => .bad)
    | none => .bad)
  | _ => .bad
def cutA (xs : List AV) (lo hi : Option Int) : List AV := (xs.drop (HT.sIx xs.length 0 lo)).take (HT.sIx xs.length xs.length hi - HT.sIx xs.length 0 lo)
def optI : AV → Option (Option Int)
  | .int i => some (some i)
  | .und => some none
  | _ => none
/-- x[lo:hi]; und: left out -/
def vSl (x lo hi : AV) (A : Hs) : R := match optI lo with
  | some l => (match optI hi with
    | some h => (match x with
      | .tup xs => .ok (.tup (cutA xs l h)) A
      | x => (match sqlOf A x with
        | some xs => guard' (allF xs) (.ok (.lst (cutA xs l h)) A)
        | none => .bad))
    | none => .bad)
  | none => .bad
/-- the same, to be changed later -/
def vSlM (x lo hi : AV) (A : Hs) : R := match optI lo with
  | some l => (match optI hi with
    | some h => (match sqlOf A x with
        | some xs => .ok (.ref A.length) (A ++ [.lst (cutA xs l h)])
        | none => .bad)
    | none => .bad)
  | none => .bad
def cTri (f : AV → AV → AV → Hs → R) (a b c : CE) : CE := fun e A => (a e A).bind fun x A => (b e A).bind fun y A => (c e A).bind fun z A => f x y z A
/-- a part that is left out -/
def cUnd : CE := fun _ A => .ok .und A
section
variable {G : Gl} {X : Cx} {a b c e : Expr} {es : List Expr} {ca cb cc ce : CE} {cr : CA} {pos p2 : Pos} {σ : L2.St} {H : Hp} {Q : VK}
theorem VRels.atI {ρ : Rho} {xs : List AV} {vs : List V} {i : Int} {x : AV} (h : VRels G ρ H false xs vs) (e : atA xs i = some x) : ∃ v, L2.atI vs i = some v ∧ VRel G ρ H false x v := by
  unfold atA at e
  unfold L2.atI
  rw [← h.length]
  cases q : ixN xs.length i with
  | none => rw [q] at e; cases e
  | some j =>
    rw [q] at e
    exact h.get e
theorem VRels.cut {t : Bool} {ρ : Rho} {xs : List AV} {vs : List V} (lo hi : Option Int) (h : VRels G ρ H t xs vs) : VRels G ρ H t (cutA xs lo hi) (cutV vs lo hi) := by
  unfold cutA cutV
  rw [← h.length]
  exact (h.drop _).take _
theorem iv_ix (fa ca : Nat → Addr) : IxR X (rOp (gl X fa ca) vIx) := by
  rintro value slice pins s σ H x y v u Q I rx ry ⟨a, b, ρ, A, rel, vr, w, A', hf, k⟩ hs
  obtain ⟨h1, h2⟩ := two vr
  unfold vIx at hf
  split at hf
  · rename_i i
    cases h2
    split at hf
    · rename_i xs e1
      obtain ⟨p, vs, rfl, q, vv⟩ := seqOf_ok rel h1 e1
      split at hf
      · cases hf
      · rename_i z hz e2
        cases hf
        obtain ⟨t, e3, ht⟩ := vv.atI e2
        rcases q with q | q
        · exact ix_list value slice pins s σ H _ _ v u Q I rx ry ⟨p, vs, i, t, rfl, rfl, q, e3, kon0 rel k ht⟩ hs
        · exact ix_tup value slice pins s σ H _ _ v u Q I rx ry ⟨p, vs, i, t, rfl, rfl, q, e3, kon0 rel k ht⟩ hs
      · cases hf
    · cases hf
  · cases hf
theorem pec_ix {f : AV → AV → Hs → R} (hr : IxR X (rOp G f)) (ha : PEc G X a ca) (hb : PEc G X b cb) (hs : PlainIx b := by intro _ _; rfl) : PEc G X (.Subscript a b pos) (cBin f ca cb) := (pe_ix hr ha hb hs).imp fun σ H Q h => tE_bin h
/-- a part of a slice -/
def tO (G : Gl) (c : CE) : TO := fun σ H Q => ∃ ρ A e, Rel G ρ A H ∧ ERel G ρ H e σ ∧ ∃ v A' o, c e A = .ok v A' ∧ optI v = some o ∧ ∀ ρ' H', Ext ρ H ρ' H' → Rel G ρ' A' H' → Q o H'
abbrev POc (G : Gl) (X : Cx) (e : Option Expr) (c : CE) : Prop := PO X e (tO G c)
theorem poc_none : POc G X none cUnd := by
  refine ⟨fun pins s σ H Q I h => po_none.run pins s σ H Q I ?_⟩
  obtain ⟨ρ, A, e, r, er, v, A', o, hc, ho, q⟩ := h
  cases hc
  cases ho
  exact q ρ H (Ext.refl _ _) r
theorem poc_some (h : PEc G X a ca) (hn : ∀ e A v A', ca e A = .ok v A' → v ≠ .und) : POc G X (some a) ca := by
  refine ⟨fun pins s σ H Q I h' => (po_some h).run pins s σ H Q I ?_⟩
  obtain ⟨ρ, A, e, r, er, v, A', o, hc, ho, q⟩ := h'
  refine ⟨ρ, A, e, r, er, .nil, v, A', hc, fun ρ' H' x ex rl vx => ?_⟩
  cases vx with
  | int => cases ho; exact ⟨_, rfl, q ρ' H' ex rl⟩
  | _ => cases ho
/-- a slice by values -/
def rSlc (G : Gl) (f : AV → AV → AV → Hs → R) : V → Option Int → Option Int → Hp → VK → Prop := fun x lo hi H Q => ∃ ρ A u l h, Rel G ρ A H ∧ VRel G ρ H false u x ∧ optI l = some lo ∧ optI h = some hi ∧ ∃ w A', f u l h A = .ok w A' ∧ Kon G ρ H Q w A'
theorem pec_slice {f : AV → AV → AV → Hs → R} {lo hi : Option Expr} (hr : SlR X (rSlc G f)) (hf : ∀ x l h A v A', f x l h A = .ok v A' → ∃ i j, optI l = some i ∧ optI h = some j) (ha : PEc G X a ca) (hl : POc G X lo cb) (hh : POc G X hi cc) :
    PEc G X (.Subscript a (.Slice lo hi none p2) pos) (cTri f ca cb cc) := by
  refine (pe_slice hr ha hl hh).imp fun σ H Q h => ?_
  obtain ⟨ρ, A, e, r, er, vr, w, A', hc, q⟩ := h
  obtain ⟨x, A1, h1, hc⟩ := R.bind_ok hc
  obtain ⟨l, A2, h2, hc⟩ := R.bind_ok hc
  obtain ⟨u, A3, h3, hc⟩ := R.bind_ok hc
  obtain ⟨i, j, e1, e2⟩ := hf _ _ _ _ _ _ hc
  refine ⟨ρ, A, e, r, er, vr, x, A1, h1, fun ρ1 H1 xv ex1 r1 vx => ?_⟩
  refine ⟨ρ1, A1, e, r1, er.mono ex1, l, A2, i, h2, e1, fun ρ2 H2 ex2 r2 => ?_⟩
  refine ⟨ρ2, A2, e, r2, (er.mono ex1).mono ex2, u, A3, j, h3, e2, fun ρ3 H3 ex3 r3 => ?_⟩
  exact ⟨ρ3, A3, x, l, u, r3, (vx.mono ex2).mono ex3, e1, e2, w, A', hc, fun ρ4 H4 y ex4 r4 vy => q ρ4 H4 y (((ex1.trans r1 ex2).trans r2 ex3).trans r3 ex4) r4 vy⟩
theorem vSl_parts {x l h v : AV} {A A' : Hs} (e : vSl x l h A = .ok v A') : ∃ i j, optI l = some i ∧ optI h = some j := by
  unfold vSl at e
  split at e
  · rename_i i h1
    split at e
    · rename_i j h2
      exact ⟨i, j, h1, h2⟩
    · cases e
  · cases e
theorem cut_all {xs : List AV} {lo hi : Option Int} (h : HT.sIx xs.length 0 lo = 0 ∧ HT.sIx xs.length xs.length hi = xs.length) : cutA xs lo hi = xs := by
  unfold cutA
  rw [h.1, h.2]
  simp
theorem sv_sl (fa ca : Nat → Addr) : SlR X (rSlc (gl X fa ca) vSl) := by
  rintro pins s σ H x v vl vu lo hi sl Q I rx hs pl pu ⟨ρ, A, u, l, h, rel, vx, e1, e2, w, A', hf, k⟩
  unfold vSl at hf
  rw [e1, e2] at hf
  dsimp only at hf
  split at hf
  · cases hf
    cases vx with
    | @tup _ xs a vs f1 v1 =>
      refine sl_tupA pins s σ H _ v vl vu lo hi sl Q I rx hs pl pu ⟨a, vs, rfl, f1.sq, fun z => ?_, fun _ => Kon.tup rel k (v1.cut lo hi)⟩
      rw [← v1.length] at z
      rw [cut_all z] at k
      exact kon0 rel k (.tup f1 v1)
  · split at hf
    · rename_i xs e3
      obtain ⟨hF, hf⟩ := guard_ok hf
      cases hf
      obtain ⟨a, vs, rfl, q, v1⟩ := sqlOf_ok rel vx e3
      exact sl_list pins s σ H _ v vl vu lo hi sl Q I rx hs pl pu ⟨a, vs, rfl, q, Kon.lst rel k ((v1.fz hF).cut lo hi)⟩
    · cases hf
theorem tE_callB {f : List AV → Hs → R} (h : tE G (cArgs f cr) σ H Q) : tCB (rAs G f) (tA G cr) σ H Q := tE_args h
theorem pec_callB {f : List AV → Hs → R} {x : Str} {id : String} {p : Pos} (hc : CallR X (.builtin id) (rAs G f)) (hg : L2.Gl X x) (hm : X.mg x = none) (hv : bootBuiltins x = some (.builtin id)) (ha : PAc G X (e :: es) cr) (hn : x ≠ "__name__" := by decide) (hdb : (x == ("__debug__" : Str)) = false := by decide)
    (he : starEach (e :: es) X.env = (false, eval e X.env) :: starEach es X.env := by rfl) (hpl : (backTo pos (starEach es X.env)).any (·.1) = false := by rfl) : PEc G X (.Call (.Name x p) (e :: es) [] pos) (cArgs f cr) :=
  (pe_callB hc hg hm hv ha hn hdb he hpl).imp fun σ H Q h => tE_callB h
theorem pec_callTy {f : List AV → Hs → R} {x : Str} {T : String} {p : Pos} (hc : CallR X (.type T) (rAs G f)) (hg : L2.Gl X x) (hm : X.mg x = none) (hv : bootBuiltins x = some (.type T)) (ha : PAc G X (e :: es) cr) (hn : x ≠ "__name__" := by decide) (hdb : (x == ("__debug__" : Str)) = false := by decide)
    (he : starEach (e :: es) X.env = (false, eval e X.env) :: starEach es X.env := by rfl) (hpl : (backTo pos (starEach es X.env)).any (·.1) = false := by rfl) : PEc G X (.Call (.Name x p) (e :: es) [] pos) (cArgs f cr) :=
  (pe_callTy hc hg hm hv ha hn hdb he hpl).imp fun σ H Q h => tE_callB h
def on1 (f : AV → Hs → R) (xs : List AV) (A : Hs) : R := match xs with
  | [x] => f x A
  | _ => .bad
def on2 (f : AV → AV → Hs → R) (xs : List AV) (A : Hs) : R := match xs with
  | [x, y] => f x y A
  | _ => .bad
theorem on1_ok {f : AV → Hs → R} {xs : List AV} {A B : Hs} {v : AV} (h : on1 f xs A = .ok v B) : ∃ x, xs = [x] ∧ f x A = .ok v B := by
  unfold on1 at h
  split at h
  · exact ⟨_, rfl, h⟩
  · cases h
theorem on2_ok {f : AV → AV → Hs → R} {xs : List AV} {A B : Hs} {v : AV} (h : on2 f xs A = .ok v B) : ∃ x y, xs = [x, y] ∧ f x y A = .ok v B := by
  unfold on2 at h
  split at h
  · exact ⟨_, _, rfl, h⟩
  · cases h
theorem VRels.one' {ρ : Rho} {u : AV} {xs : List V} (h : VRels G ρ H false [u] xs) : ∃ x, xs = [x] ∧ VRel G ρ H false u x := by
  cases h with
  | cons h t => cases t; exact ⟨_, rfl, h⟩
theorem VRels.two' {ρ : Rho} {u v : AV} {xs : List V} (h : VRels G ρ H false [u, v] xs) : ∃ x y, xs = [x, y] ∧ VRel G ρ H false u x ∧ VRel G ρ H false v y := by
  cases h with
  | cons h t =>
    obtain ⟨y, rfl, h2⟩ := VRels.one' t
    exact ⟨_, _, rfl, h, h2⟩
theorem callR1 {f : Value} {g : AV → Hs → R} {r : List V → Hp → VK → Prop} (hc : CallR X f r) (h : ∀ x v H Q ρ A w A', Rel G ρ A H → VRel G ρ H false x v → g x A = .ok w A' → Kon G ρ H Q w A' → r [v] H Q) : CallR X f (rAs G (on1 g)) := by
  rintro pins s σ H xs us Q I rv ⟨ws, ρ, A, rel, vr, w, A', hf, k⟩
  obtain ⟨x, rfl, hf⟩ := on1_ok hf
  obtain ⟨v, rfl, hv⟩ := vr.one'
  exact hc pins s σ H _ us Q I rv (h x v H Q ρ A w A' rel hv hf k)
theorem callR2 {f : Value} {g : AV → AV → Hs → R} {r : List V → Hp → VK → Prop} (hc : CallR X f r) (h : ∀ x y v u H Q ρ A w A', Rel G ρ A H → VRel G ρ H false x v → VRel G ρ H false y u → g x y A = .ok w A' → Kon G ρ H Q w A' → r [v, u] H Q) : CallR X f (rAs G (on2 g)) := by
  rintro pins s σ H xs us Q I rv ⟨ws, ρ, A, rel, vr, w, A', hf, k⟩
  obtain ⟨x, y, rfl, hf⟩ := on2_ok hf
  obtain ⟨v, u, rfl, hv, hu⟩ := vr.two'
  exact hc pins s σ H _ us Q I rv (h x y v u H Q ρ A w A' rel hv hu hf k)
def vLen (x : AV) (A : Hs) : R := match x with
  | .str z => guard' (line z.length) (.ok (.int z.length) A)
  | x => (match seqOf A x with
    | some xs => .ok (.int xs.length) A
    | none => .bad)
theorem cv_len (fa ca : Nat → Addr) : CallR X (.builtin "len") (rAs (gl X fa ca) (on1 vLen)) := by
  refine callR1 (call_len_seq.or call_len_str) fun x v H Q ρ A w A' rel hv hf k => ?_
  unfold vLen at hf
  split at hf
  · obtain ⟨hg, e⟩ := guard_ok hf
    cases e
    cases hv
    exact .inr ⟨_, rfl, line_ok hg, kon0 rel k .int⟩
  · split at hf
    · rename_i xs e
      cases hf
      obtain ⟨a, vs, rfl, q, vv⟩ := seqOf_ok rel hv e
      exact .inl ⟨a, vs, rfl, q, by rw [← vv.length]; exact kon0 rel k .int⟩
    · cases hf
def vInt (x : AV) (A : Hs) : R := match x with
  | .int i => .ok (.int i) A
  | _ => .bad
def vAbs (x : AV) (A : Hs) : R := match x with
  | .int i => .ok (.int (if i < 0 then -i else i)) A
  | _ => .bad
def vMin2 : AV → AV → Hs → R := on2I fun i j A => .ok (.int (if j < i then j else i)) A
def vMax2 : AV → AV → Hs → R := on2I fun i j A => .ok (.int (if j > i then j else i)) A
theorem cv_min2 (hc : X.calm = true) : CallR X (.builtin "min") (rAs G (on2 vMin2)) := by
  refine callR2 (call_min2 hc) fun x y v u H Q ρ A w A' rel hv hu hf k => ?_
  obtain ⟨i, j, rfl, rfl, hf⟩ := on2I_ok hf
  cases hf; cases hv; cases hu
  exact ⟨_, _, rfl, kon0 rel k .int⟩
def asInt : AV → Option Int
  | .int i => some i
  | _ => none
def asBl : AV → Option Bool
  | .bl i => some i
  | _ => none
def intsOf (xs : List AV) : Option (List Int) := optAll asInt xs
def blsOf (xs : List AV) : Option (List Bool) := optAll asBl xs
theorem intsOf_ok {ρ : Rho} : ∀ {xs : List AV} {vs : List V} {ns : List Int}, VRels G ρ H false xs vs → intsOf xs = some ns → vs = ns.map V.int ∧ xs = ns.map AV.int
  | _, _, _, .nil, e => by cases e; exact ⟨rfl, rfl⟩
  | _, _, ns, .cons h t, e => by
    unfold intsOf optAll at e
    split at e
    · rename_i y h1
      split at e
      · rename_i ys h2
        cases e
        obtain ⟨a, b⟩ := intsOf_ok t h2
        cases h with
        | int => cases h1; exact ⟨by rw [a]; rfl, by rw [b]; rfl⟩
        | _ => cases h1
      · cases e
    · cases e
theorem VRels.ints {t : Bool} {ρ : Rho} : ∀ {ns : List Int}, VRels G ρ H t (ns.map AV.int) (ns.map V.int)
  | [] => .nil
  | _ :: _ => .cons .int VRels.ints
def onInts (f : List Int → Hs → R) (x : AV) (A : Hs) : R := match sqlOf A x with
  | some xs => (match intsOf xs with
    | some ns => f ns A
    | none => .bad)
  | none => .bad
theorem onInts_ok {f : List Int → Hs → R} {ρ : Rho} {x w : AV} {v : V} {A A' : Hs} (rel : Rel G ρ A H) (hv : VRel G ρ H false x v) (h : onInts f x A = .ok w A') : ∃ a ns, v = .ref a ∧ SqL G.K H a (ns.map V.int) ∧ f ns A = .ok w A' := by
  unfold onInts at h
  split at h
  · rename_i xs e
    split at h
    · rename_i ns e2
      obtain ⟨a, vs, rfl, q, vv⟩ := sqlOf_ok rel hv e
      obtain ⟨rfl, _⟩ := intsOf_ok vv e2
      exact ⟨a, ns, rfl, q, h⟩
    · cases h
  · cases h
def vSum : AV → Hs → R := onInts fun ns A => .ok (.int ns.sum) A
theorem cv_sum (hc : X.calm = true) (fa ca : Nat → Addr) : CallR X (.builtin "sum") (rAs (gl X fa ca) (on1 vSum)) := by
  refine callR1 (cr_sum hc) fun x v H Q ρ A w A' rel hv hf k => ?_
  obtain ⟨a, ns, rfl, q, hf⟩ := onInts_ok rel hv hf
  cases hf
  exact ⟨a, ns, rfl, q, kon0 rel k .int⟩
def maxL : List Int → Int → Int
  | [], m => m
  | x :: r, m => maxL r (if m < x then x else m)
def minL : List Int → Int → Int
  | [], m => m
  | x :: r, m => minL r (if x < m then x else m)
def vMaxL : AV → Hs → R := onInts fun ns A => match ns with
  | [] => .bad
  | n :: r => .ok (.int (maxL r n)) A
def vMinL : AV → Hs → R := onInts fun ns A => match ns with
  | [] => .bad
  | n :: r => .ok (.int (minL r n)) A
def onBls (f : List Bool → Hs → R) (x : AV) (A : Hs) : R := match sqlOf A x with
  | some xs => (match blsOf xs with
    | some ns => f ns A
    | none => .bad)
  | none => .bad
def vAny : AV → Hs → R := onBls fun ns A => .ok (.bl (ns.any id)) A
def vAll : AV → Hs → R := onBls fun ns A => .ok (.bl (ns.all id)) A
def vTuple (x : AV) (A : Hs) : R := match seqOf A x with
  | some xs => guard' (allF xs) (.ok (.tup xs) A)
  | none => .bad
def vList (x : AV) (A : Hs) : R := match seqOf A x with
  | some xs => guard' (allF xs) (.ok (.lst xs) A)
  | none => .bad
def vListM (x : AV) (A : Hs) : R := match seqOf A x with
  | some xs => .ok (.ref A.length) (A ++ [.lst xs])
  | none => .bad
theorem cv_tuple (fa ca : Nat → Addr) : CallR X (.type "tuple") (rAs (gl X fa ca) (on1 vTuple)) := by
  refine callR1 call_tuple_of fun x v H Q ρ A w A' rel hv hf k => ?_
  unfold vTuple at hf
  split at hf
  · rename_i xs e
    obtain ⟨hF, hf⟩ := guard_ok hf
    cases hf
    cases hv with
    | @tup _ ys a vs f1 v1 => cases e; exact ⟨a, vs, rfl, .inr ⟨f1.sq, kon0 rel k (.tup f1 v1)⟩⟩
    | mix f1 v1 => cases e; exact ⟨_, _, rfl, .inr ⟨f1.sq, kon0 rel k (.tup f1 (v1.fz hF))⟩⟩
    | scr h1 h2 => cases e; exact ⟨_, _, rfl, .inl ⟨h1.sq, Kon.tup rel k h2⟩⟩
    | lst h1 n h2 => cases e; exact ⟨_, _, rfl, .inl ⟨.of h1, Kon.tup rel k h2⟩⟩
    | ref hp =>
      obtain ⟨a, vs, e1, h1, h2⟩ := lstOf_ok rel (.ref hp) e
      rw [e1]
      exact ⟨a, vs, rfl, .inl ⟨.of h1, Kon.tup rel k (h2.fz hF)⟩⟩
    | _ => cases e
  · cases hf
theorem cv_list (fa ca : Nat → Addr) : CallR X (.type "list") (rAs (gl X fa ca) (on1 vList)) := by
  refine callR1 call_list_of fun x v H Q ρ A w A' rel hv hf k => ?_
  unfold vList at hf
  split at hf
  · rename_i xs e
    obtain ⟨hF, hf⟩ := guard_ok hf
    cases hf
    obtain ⟨a, vs, rfl, q, vv⟩ := seqOf_ok rel hv e
    exact ⟨a, vs, rfl, q, Kon.lst rel k (vv.fz hF)⟩
  · cases hf
theorem cv_listM (fa ca : Nat → Addr) : CallR X (.type "list") (rAs (gl X fa ca) (on1 vListM)) := by
  refine callR1 call_list_of fun x v H Q ρ A w A' rel hv hf k => ?_
  unfold vListM at hf
  split at hf
  · rename_i xs e
    cases hf
    obtain ⟨a, vs, rfl, q, vv⟩ := seqOf_ok rel hv e
    exact ⟨a, vs, rfl, q, Kon.cell rel k vv⟩
  · cases hf
end
end Ev
namespace Ev
open PySem PySem.Spec PyProof.Rows L2
def isL (A : Hs) (x : AV) : Bool := (sqlOf A x).isSome
def cML (f : AV → List AV → Hs → R) (o : CE) (args : CA) : CE := fun e A => (o e A).bind fun x A => guard' (isL A x) ((args e A).bind fun xs A => f x xs A)
def onCell (f : Nat → List AV → R) (x : AV) (A : Hs) : R := match x with
  | .ref i => (match A[i]? with
    | some (.lst ys) => f i ys
    | _ => .bad)
  | _ => .bad
section
variable {G : Gl} {X : Cx} {a b c e o : Expr} {es : List Expr} {ca cb cc ce co : CE} {cr : CA} {pos p2 apos cpos : Pos} {σ : L2.St} {H : Hp} {Q : VK}
theorem onCell_ok {f : Nat → List AV → R} {ρ : Rho} {x w : AV} {v : V} {A A' : Hs} (rel : Rel G ρ A H) (hv : VRel G ρ H false x v) (h : onCell f x A = .ok w A') :
    ∃ i ys p vs, A[i]? = some (.lst ys) ∧ ρ.c[i]? = some p ∧ p.2 = p.1 ∧ v = .ref p.1 ∧ H p.1 = some (.lst vs) ∧ VRels G ρ H false ys vs ∧ f i ys = .ok w A' := by
  cases hv with
  | @ref i p hp =>
    unfold onCell at h
    dsimp only at h
    split at h
    · rename_i ys hA
      obtain ⟨e, vs, h1, h2⟩ := rel.cell i _ p hA hp
      exact ⟨i, ys, p, vs, hA, hp, e, rfl, h1, h2, h⟩
    · cases h
  | _ => cases h
theorem Kon.set {ρ : Rho} {A : Hs} {i : Nat} {p : Addr × Addr} {ys : List AV} {vs : List V} {v : AV} {x : V} (rel : Rel G ρ A H) (hp : ρ.c[i]? = some p) (h2 : p.2 = p.1) (k : Kon G ρ H Q v (A.set i (.lst ys))) (hy : VRels G ρ H false ys vs) (hv : VRel G ρ H false v x) : Q x (upd H p.1 (.lst vs)) :=
  k ρ _ x (ext_on (onC_of hp).1 _) (rel.set hp h2 hy) (hv.mono (ext_on (onC_of hp).1 _))
/-- a method by values -/
def rM (G : Gl) (f : AV → List AV → Hs → R) : V → List V → Hp → VK → Prop := fun x xs H Q => ∃ u us, rV G (us ++ [u]) (xs ++ [x]) (f u us) H Q
theorem VRels.split {ρ : Rho} : ∀ {us : List AV} {xs : List V} {u : AV} {x : V}, VRels G ρ H false (us ++ [u]) (xs ++ [x]) → VRels G ρ H false us xs ∧ VRel G ρ H false u x
  | [], [], _, _, h => ⟨.nil, one h⟩
  | [], [_], _, _, h => by cases h with | cons _ t => cases t
  | [], _ :: _ :: _, _, _, h => by cases h with | cons _ t => cases t
  | _ :: us, [], _, _, h => by
    have := h.length
    simp at this
  | _ :: us, _ :: xs, _, _, h => by
    cases h with
    | cons h t =>
      obtain ⟨a, b⟩ := VRels.split t
      exact ⟨.cons h a, b⟩
theorem tE_ml {f : AV → List AV → Hs → R} (fa fc : Nat → Addr) (h : tE (gl X fa fc) (cML f co cr) σ H Q) : tBM X.K "list" (rM (gl X fa fc) f) (tE (gl X fa fc) co) (tA (gl X fa fc) cr) σ H Q := by
  obtain ⟨ρ, A, e, r, er, vr, w, A', hc, q⟩ := h
  obtain ⟨x, A1, h1, hc⟩ := R.bind_ok hc
  obtain ⟨hg, hc⟩ := guard_ok hc
  obtain ⟨xs, A2, h2, hc⟩ := RA.bind_ok hc
  refine ⟨ρ, A, e, r, er, vr, x, A1, h1, fun ρ1 H1 xv ex1 r1 vx => ⟨?_, ?_⟩⟩
  · obtain ⟨ys, hy⟩ := Option.isSome_iff_exists.mp hg
    obtain ⟨a, vs, rfl, q, _⟩ := sqlOf_ok r1 vx hy
    exact .inl ⟨rfl, vs, q⟩
  · refine ⟨ρ1, A1, e, r1, er.mono ex1, .nil, xs, A2, h2, fun ρ2 H2 ys ex2 r2 vy => ⟨x, xs, ρ2, A2, r2, vy.append (.cons (vx.mono ex2) .nil), w, A', hc, fun ρ3 H3 z ex3 r3 vz => q ρ3 H3 z ((ex1.trans r1 ex2).trans r2 ex3) r3 vz⟩⟩
theorem tE_ml0 {f : AV → List AV → Hs → R} (fa fc : Nat → Addr) (h : tE (gl X fa fc) (cML f co aNil) σ H Q) : tBM0 X.K "list" (rM (gl X fa fc) f) (tE (gl X fa fc) co) σ H Q := by
  refine tEh.imp (tE_ml fa fc h) fun x H1 ⟨ty, q⟩ => ⟨ty, ?_⟩
  obtain ⟨ρ, A, e, r, er, vr, ws, A', hc, q⟩ := q
  cases hc
  exact q ρ H1 [] (Ext.refl _ _) r .nil
theorem pec_ml {f : AV → List AV → Hs → R} {name : Str} {id : String} {fa fc : Nat → Addr} (slot : Slot "list" name id) (hty : typeOf (.builtin id) = pure (.type "method_descriptor")) (hm : MtR X id (rM (gl X fa fc) f)) (ho : PEc (gl X fa fc) X o co) (ha : PAc (gl X fa fc) X (e :: es) cr)
    (hbase : attributeBase o name X.env (eval o X.env) = eval o X.env := by rfl)
    (hfew : ((backTo cpos (starEach (e :: es) X.env)).all (fun x => !x.1) && (backToKw cpos (keywordEach [] X.env)).all (fun x => x.1.isSome)
      && decide ((e :: es).length + ([] : List Keyword).length + (if ([] : List Keyword).isEmpty then 0 else 1) < 30)) = true := by rfl)
    (hline : (apos.endLine == cpos.line) = true := by rfl) (hs : starEach (e :: es) X.env = (false, eval e X.env) :: starEach es X.env := by rfl) (hplain : (backTo cpos (starEach es X.env)).any (·.1) = false := by rfl) :
    PEc (gl X fa fc) X (.Call (.Attribute o name apos) (e :: es) [] cpos) (cML f co cr) :=
  (pe_bm PySem.F.plainAttrs_list slot hty hm ho ha hbase hfew hline hs hplain).imp fun σ H Q h => tE_ml fa fc h
theorem pec_ml0 {f : AV → List AV → Hs → R} {name : Str} {id : String} {fa fc : Nat → Addr} (slot : Slot "list" name id) (hty : typeOf (.builtin id) = pure (.type "method_descriptor")) (hm : MtR X id (rM (gl X fa fc) f)) (ho : PEc (gl X fa fc) X o co)
    (hbase : attributeBase o name X.env (eval o X.env) = eval o X.env := by rfl) (hline : (apos.endLine == cpos.line) = true := by rfl) :
    PEc (gl X fa fc) X (.Call (.Attribute o name apos) [] [] cpos) (cML f co aNil) :=
  (pe_bm0 PySem.F.plainAttrs_list slot hty hm ho hbase hline).imp fun σ H Q h => tE_ml0 fa fc h
theorem mtR {id : String} {f : AV → List AV → Hs → R} {r : V → List V → Hp → VK → Prop} (hm : MtR X id r) (h : ∀ u us x xs H Q ρ A w A', Rel G ρ A H → VRel G ρ H false u x → VRels G ρ H false us xs → f u us A = .ok w A' → Kon G ρ H Q w A' → r x xs H Q) : MtR X id (rM G f) := by
  rintro pins s σ H x xs v us Q I rx rxs ⟨u, ws, ρ, A, rel, vr, w, A', hf, k⟩
  obtain ⟨v1, v2⟩ := vr.split
  exact hm pins s σ H x xs v us Q I rx rxs (h u ws x xs H Q ρ A w A' rel v2 v1 hf k)
def vAppend (x : AV) (us : List AV) (A : Hs) : R := match us with
  | [y] => onCell (fun i ys => guard' (line (ys.length + 1)) (.ok .non (A.set i (.lst (ys ++ [y]))))) x A
  | _ => .bad
theorem lt_line {n : Nat} (h : line (n + 1) = true) : n < sizeLine := line_ok h
theorem mv_append : MtR X "list.append" (rM G vAppend) := by
  refine mtR mt_append fun u us x xs H Q ρ A w A' rel hu hus hf k => ?_
  unfold vAppend at hf
  split at hf
  · obtain ⟨y, rfl, hy⟩ := hus.one'
    obtain ⟨i, ys, p, vs, hA, hp, h2, rfl, hH, hv, hf⟩ := onCell_ok rel hu hf
    obtain ⟨hg, e⟩ := guard_ok hf
    cases e
    exact ⟨p.1, vs, y, rfl, rfl, hH, by rw [← hv.length]; exact lt_line hg, Kon.set rel hp h2 k (hv.append (.cons hy .nil)) .non⟩
  · cases hf
def vExtend (x : AV) (us : List AV) (A : Hs) : R := match us with
  | [y] => (match lstOf A y with
    | some zs => onCell (fun i ys => guard' (line (ys.length + zs.length)) (.ok .non (A.set i (.lst (ys ++ zs))))) x A
    | none => .bad)
  | _ => .bad
theorem mv_extend : MtR X "list.extend" (rM G vExtend) := by
  refine mtR mt_extend fun u us x xs H Q ρ A w A' rel hu hus hf k => ?_
  unfold vExtend at hf
  split at hf
  · obtain ⟨y, rfl, hy⟩ := hus.one'
    split at hf
    · rename_i zs e1
      obtain ⟨b, ws, rfl, hb, hw⟩ := lstOf_ok rel hy e1
      obtain ⟨i, ys, p, vs, hA, hp, h2, rfl, hH, hv, hf⟩ := onCell_ok rel hu hf
      obtain ⟨hg, e⟩ := guard_ok hf
      cases e
      exact ⟨p.1, b, vs, ws, rfl, rfl, hH, hb, by rw [← hv.length, ← hw.length]; exact line_ok hg, Kon.set rel hp h2 k (hv.append hw) .non⟩
    · cases hf
  · cases hf
theorem VRels.dropLast {ρ : Rho} {xs : List AV} {vs : List V} (h : VRels G ρ H false xs vs) : VRels G ρ H false xs.dropLast vs.dropLast := by
  rw [List.dropLast_eq_take, List.dropLast_eq_take, h.length]
  exact h.take _
theorem VRels.eraseIdx {ρ : Rho} : ∀ {xs : List AV} {vs : List V} (n : Nat), VRels G ρ H false xs vs → VRels G ρ H false (xs.eraseIdx n) (vs.eraseIdx n)
  | _, _, _, .nil => .nil
  | _, _, 0, .cons h t => t
  | _, _, n + 1, .cons h t => .cons h (VRels.eraseIdx n t)
def vPop (x : AV) (us : List AV) (A : Hs) : R := match us with
  | [] => onCell (fun i ys => match ys[ys.length - 1]? with
    | some y => .ok y (A.set i (.lst ys.dropLast))
    | none => .bad) x A
  | [.int k] => onCell (fun i ys => guard' (decide (-9223372036854775808 ≤ k) && decide (k < 9223372036854775808)) (match seqIndex? k ys.length with
    | some j => (match ys[j]? with
      | some y => .ok y (A.set i (.lst (ys.eraseIdx j)))
      | none => .bad)
    | none => .bad)) x A
  | _ => .bad
def vClear (x : AV) (us : List AV) (A : Hs) : R := match us with
  | [] => onCell (fun i _ => .ok .non (A.set i (.lst []))) x A
  | _ => .bad
theorem mv_clear : MtR X "list.clear" (rM G vClear) := by
  refine mtR mt_clear fun u us x xs H Q ρ A w A' rel hu hus hf k => ?_
  unfold vClear at hf
  split at hf
  · cases hus
    obtain ⟨i, ys, p, vs, hA, hp, h2, rfl, hH, hv, hf⟩ := onCell_ok rel hu hf
    cases hf
    exact ⟨p.1, vs, rfl, rfl, hH, Kon.set rel hp h2 k .nil .non⟩
  · cases hf
def vInsert (x : AV) (us : List AV) (A : Hs) : R := match us with
  | [.int k, y] => onCell (fun i ys => guard' (line (ys.length + 1) && decide (0 ≤ k) && decide (k < 9223372036854775808)) (.ok .non (A.set i (.lst (ys.take k.toNat ++ [y] ++ ys.drop k.toNat))))) x A
  | _ => .bad
/-- the first place of an equal one -/
def findD (d : PyData) : List PyData → Nat → Option Nat
  | [], _ => none
  | z :: r, j => pick (PyData.eqv z d) (some j) (findD d r (j + 1))
def vIndex (x : AV) (us : List AV) (A : Hs) : R := match us with
  | [y] => on2D (fun d e A => match d with
    | .list ds => (match findD e ds 0 with
      | some j => .ok (.int (j : Nat)) A
      | none => .bad)
    | _ => .bad) x y A
  | _ => .bad
def rgA (a b : Int) : List AV := (List.range (b - a).toNat).map fun i => AV.int (a + (i : Nat))
def rgOk (a b : Int) : Bool := decide (-4611686018427387904 ≤ a) && decide (a < 4611686018427387904) && decide (-4611686018427387904 ≤ b) && decide (b < 4611686018427387904) && decide ((b - a).toNat ≤ 16777216)
theorem rgOk_ok {a b : Int} (h : rgOk a b = true) : RgOk a b := by
  unfold rgOk at h
  simp only [Bool.and_eq_true, decide_eq_true_eq] at h
  exact ⟨h.1.1.1.1, h.1.1.1.2, h.1.1.2, h.1.2, h.2⟩
theorem rgA_rel {t : Bool} {ρ : Rho} (a b : Int) : VRels G ρ H t (rgA a b) (rgV a b) := by
  unfold rgA rgV
  generalize List.range (b - a).toNat = l
  induction l with
  | nil => exact .nil
  | cons x r ih => exact .cons .int ih
def cRg (k : List AV → Hs → R) (lo hi : CE) : CE := cBin (on2I fun i j A => guard' (rgOk i j) (k (rgA i j) A)) lo hi
def kLst (xs : List AV) (A : Hs) : R := guard' (allF xs) (.ok (.lst xs) A)
def kTupA (xs : List AV) (A : Hs) : R := .ok (.tup xs) A
def kLstM (xs : List AV) (A : Hs) : R := .ok (.ref A.length) (A ++ [.lst xs])
theorem tE_rg {k : List AV → Hs → R} {lo hi : CE} (h : tE G (cRg k lo hi) σ H Q) : tE G lo σ H fun x H1 => tE G hi σ H1 fun y H2 => ∃ i j, x = .int i ∧ y = .int j ∧ RgOk i j ∧ ∃ ρ A, Rel G ρ A H2 ∧ ∃ v A', k (rgA i j) A = .ok v A' ∧ Kon G ρ H2 Q v A' := by
  refine tEh.imp (tE_bin h) fun x H1 h => tEh.imp h fun y H2 h => ?_
  obtain ⟨u, v, ρ, A, rel, vr, w, A', hf, kk⟩ := h
  obtain ⟨i, j, rfl, rfl, hf⟩ := on2I_ok hf
  obtain ⟨h1, h2⟩ := two vr
  cases h1; cases h2
  obtain ⟨hg, hf⟩ := guard_ok hf
  exact ⟨i, j, rfl, rfl, rgOk_ok hg, ρ, A, rel, w, A', hf, kk⟩
section
variable {p p1 pos1 : Pos} {name : Str}
theorem prg2 (hg : L2.Gl X "range") (hm : X.mg "range" = none) (ha : PEc G X a ca) (hb : PEc G X b cb) (na : starEach [a, b] X.env = (false, eval a X.env) :: starEach [b] X.env := by rfl) (nb : starEach [b] X.env = (false, eval b X.env) :: starEach [] X.env := by rfl) :
    PRg X (.Call (.Name "range" p) [a, b] [] pos) (tRg2 (tE G ca) (tE G cb)) := prg_2 hg hm ha hb na nb (by rw [nb]; rfl)
theorem pec_tupRg2 (hc : X.calm = true) (hl : L2.Gl X "tuple") (ml : X.mg "tuple" = none) (hg : L2.Gl X "range") (hm : X.mg "range" = none) (ha : PEc G X a ca) (hb : PEc G X b cb) (na : starEach [a, b] X.env = (false, eval a X.env) :: starEach [b] X.env := by rfl) (nb : starEach [b] X.env = (false, eval b X.env) :: starEach [] X.env := by rfl) (na1 : starEach [Expr.Call (.Name "range" p) [a, b] [] pos] X.env = (false, eval (Expr.Call (.Name "range" p) [a, b] [] pos) X.env) :: starEach [] X.env := by rfl) :
    PEc G X (.Call (.Name "tuple" p1) [.Call (.Name "range" p) [a, b] [] pos] [] pos1) (cRg kTupA ca cb) :=
  (pe_tupRg hc hl ml (prg2 hg hm ha hb na nb) na1).imp fun σ H Q h => tEh.imp (tE_rg h) fun x H1 h => tEh.imp h fun y H2 ⟨i, j, e1, e2, ok, ρ, A, rel, v, A', hf, k⟩ => ⟨i, j, e1, e2, ok, by cases hf; exact Kon.tup rel k (rgA_rel i j)⟩
/-- from 0 on -/
theorem tE_rg1 {k : List AV → Hs → R} {hi : CE} (h : tE G (cRg k (cC (.int 0)) hi) σ H Q) : tE G hi σ H fun y H2 => ∃ j, y = .int j ∧ RgOk 0 j ∧ ∃ ρ A, Rel G ρ A H2 ∧ ∃ v A', k (rgA 0 j) A = .ok v A' ∧ Kon G ρ H2 Q v A' := by
  have h' := tE_const (tE_rg h) (u := .int 0) fun _ _ => .int
  refine tEh.imp h' fun y H2 ⟨i, j, e1, e2, ok, q⟩ => ?_
  cases e1
  exact ⟨j, e2, ok, q⟩
theorem pec_tupRg1 (hc : X.calm = true) (hl : L2.Gl X "tuple") (ml : X.mg "tuple" = none) (hg : L2.Gl X "range") (hm : X.mg "range" = none) (ha : PEc G X a ca) (na : starEach [a] X.env = (false, eval a X.env) :: starEach [] X.env := by rfl) (na1 : starEach [Expr.Call (.Name "range" p) [a] [] pos] X.env = (false, eval (Expr.Call (.Name "range" p) [a] [] pos) X.env) :: starEach [] X.env := by rfl) :
    PEc G X (.Call (.Name "tuple" p1) [.Call (.Name "range" p) [a] [] pos] [] pos1) (cRg kTupA (cC (.int 0)) ca) :=
  (pe_tupRg hc hl ml (prg_1 hg hm ha na) na1).imp fun σ H Q h => tEh.imp (tE_rg1 h) fun y H2 ⟨j, e2, ok, ρ, A, rel, v, A', hf, k⟩ => ⟨j, e2, ok, by cases hf; exact Kon.tup rel k (rgA_rel 0 j)⟩
end
end
end Ev
namespace Ev
open PySem Sem
open AutoSeq1 (wpAny_loadPart')
theorem meets_enumerate_newT (l : Addr) (items : Array Value) (n : Nat) (dct : Option Addr) (sl : Array (Option Value)) :
    Meets (Builtin.«enumerate.__new__» ⟨[.type "enumerate", .ref l], []⟩) (fun _ R s => s.heap.get? l = some { cls := .type "tuple", dict := dct, data := .seq items n, slots := sl } ∧
      R (.ok (.ret (.ref (s.heap.push { cls := .type "tuple_iterator", data := .fields #[.ref l, .int 0 0] }).objs.size)))
        { s with heap := (s.heap.push { cls := .type "tuple_iterator", data := .fields #[.ref l, .int 0 0] }).push { cls := .type "enumerate", data := .fields #[.none, .bool false, .ref s.heap.objs.size, rawInt 0, .none, .none] } }) :=
  .of_wp fun prog w A R s h => by
    obtain ⟨hp, g, d, tk, os⟩ := s; obtain ⟨hl, h⟩ := h
    have hsub := sub_enumerate
    have hL : Heap.IsTuple (Shared.heap ⟨hp, g, d, tk, os⟩) l items := ⟨_, hl, rfl, n, rfl⟩
    wp_walk using wpAny_loadPart' hl
    refine wpAny_stack_any fun st => wpAny_pure ?_
    split
    · rename_i c _ _ _ _ _
      cases (c == Value.type "enumerate")
      · wp_walk using wpAny_loadPart' hl, wpAny_pyIter_tuple hL
        exact ⟨_, rfl, h⟩
      · wp_walk using wpAny_loadPart' hl, wpAny_pyIter_tuple hL
        exact ⟨_, rfl, h⟩
    · wp_walk using wpAny_loadPart' hl, wpAny_pyIter_tuple hL
      exact ⟨_, rfl, h⟩
section
variable {prog : Program} {w : World} {A : Around} {E : Value → Shared → Prop} {s : Shared}
theorem call_enumerate_tuple {l : Addr} {items : Array Value} {Q : Value → Shared → Prop} (hL : s.heap.IsTuple l items)
    (h : ∀ h', IsEnum h' (s.heap.objs.size + 1) s.heap.objs.size 0 .none → h'.IsTupleIter s.heap.objs.size l 0 → h'.objs.size = s.heap.objs.size + 2 →
      (∀ b o, s.heap.get? b = some o → h'.get? b = some o) → Q (.ref (s.heap.objs.size + 1)) { s with heap := h' }) :
    wpAny (model prog w) A (call (.type "enumerate") [.ref l]) Q E s := by
  obtain ⟨⟨c, dct, dt, sl⟩, hl, hc, n, hd⟩ := hL
  replace hc : c = .type "tuple" := hc
  replace hd : dt = .seq items n := hd
  subst hc hd
  refine callType_new F.called_enumerate (by decide) (F.typeCall_enumerate_1 _) (F.newCall_enumerate_1 _) (fun obj => F.args_object_init_2 obj _) F.entry_enumerate_new
    (meets_enumerate_newT l items n dct sl) ⟨hl, ?_⟩
  have hz : (s.heap.push { cls := .type "tuple_iterator", data := .fields #[.ref l, .int 0 0] }).objs.size = s.heap.objs.size + 1 := Heap.size_push ..
  show _ ∧ _
  rw [hz]
  have he : IsEnum ((s.heap.push { cls := .type "tuple_iterator", data := .fields #[.ref l, .int 0 0] }).push
      { cls := .type "enumerate", data := .fields #[.none, .bool false, .ref s.heap.objs.size, rawInt 0, .none, .none] }) (s.heap.objs.size + 1) s.heap.objs.size 0 .none := by
    have := Heap.get?_push_size (s.heap.push { cls := .type "tuple_iterator", data := .fields #[.ref l, .int 0 0] })
      (o := { cls := .type "enumerate", data := .fields #[.none, .bool false, .ref s.heap.objs.size, rawInt 0, .none, .none] }) rfl
    rw [hz] at this; exact this
  refine ⟨⟨_, he, rfl⟩, h _ he ⟨_, Heap.get?_push_of_some _ (Heap.get?_push_size _ rfl), rfl, rfl⟩ (by rw [Heap.size_push, hz]) fun b o x => Heap.get?_push_of_some _ (Heap.get?_push_of_some _ x)⟩
theorem next_enumT_end {e it l : Addr} {i : Nat} {items : Array Value} {old : Value} {Q : Option Value → Shared → Prop} (hh : A.handled = none)
    (he : IsEnum s.heap e it i old) (hit : s.heap.IsTupleIter it l i) (hl : s.heap.IsTuple l items) (hx : items[i]? = none)
    (hQ : ∀ h', Heap.ExtBut it s.heap h' → Q none { s with heap := h' }) : wpAny (model prog w) A (pyNext (.ref e)) Q E s := by
  have hT : s.TypeIs (.ref e) "enumerate" := ⟨_, he, rfl⟩
  unfold pyNext
  refine wpAny_bind (wpAny_attempt (wpAny_callSpecial?_slot (name := Str.ofString "__next__") hT F.slot_enumerate_next
    (wpAny_call_entry F.slot_enumerate_next hT F.entry_enumerate_next ?_ (F.args_enumerate_next_1 _))))
  show wpAny _ _ (field (.ref e) 2 >>= _) _ _ _
  refine wpAny_bind (wpAny_field he rfl (x := .ref it) rfl ?_)
  refine wpAny_bind (wpAny_nextOf_tuple_end hh hit hl hx fun h' x he' hx' => ?_)
  obtain ⟨o, ho, hc⟩ := hx'
  refine wpAny_bind (wpAny_isInstance (T := "StopIteration") (b := true) ⟨o, ho, hc⟩ isSubtype_stop ?_)
  exact wpAny_pure (hQ _ he')
end
end Ev
namespace Ev
open PySem PySem.Spec PyProof.Rows L2
def IteT (K : PySem.W.Frag) (a : Addr) : It :=
  ⟨fun i H => ∃ (xs : List V) (x : V), SqT K H a xs ∧ xs[i]? = some x, fun i H v H' => ∃ T x, v = .ref T ∧ H T = none ∧ H' = upd H T (.tup [.int (i : Nat), x]) ∧ ∀ xs, SqT K H a xs → xs[i]? = some x, fun i H => ∃ xs : List V, SqT K H a xs ∧ xs.length ≤ i⟩
theorem turn_enumT {P : Program} {w : World} {K : PySem.W.Frag} {elts : List Expr} {kk : Nat} {tpos : Pos} (a e it : Addr) :
    Turn P w K (.Tuple elts kk tpos) (IteT K a) [e, it] e (fun i h => (∃ old, IsEnum h e it ((i : Nat) : Int) old) ∧ h.IsTupleIter it a i ∧ e ≠ it) where
  mem := by simp
  obj := fun i h st b hb => by
    obtain ⟨⟨old, he⟩, ⟨o, ho, hc, hd⟩, _⟩ := st
    have e' : b = e ∨ b = it := by simpa using hb
    rcases e' with z | z
    · rw [z]; exact ⟨_, he, fun v q => nomatch q⟩
    · rw [z]; exact ⟨o, ho, fun v q => by rw [hd] at q; cases q⟩
  keep := fun i h h' st k => let ⟨⟨old, he⟩, hi, hne⟩ := st; ⟨⟨old, k e (by simp) _ he⟩, hi.at fun o q => k it (by simp) o q, hne⟩
  item := by
    intro X hP hw hK hc i pins s σ H E I hf st hg
    subst hP hw hK
    obtain ⟨⟨old, he⟩, hit, hne⟩ := st
    obtain ⟨xs, x, hq, hx⟩ := hg
    obtain ⟨its, rv, p, hz⟩ := I.tuple hq
    have pt : s.heap.IsTuple a its.toArray := p
    obtain ⟨u, hu, ru⟩ := rv.get hx
    have hel : e < s.heap.objs.size := Heap.lt_size he
    have hil : it < s.heap.objs.size := by obtain ⟨_, q, _⟩ := hit; exact Heap.lt_size q
    have hai : a ≠ it := fun z => by
      obtain ⟨o1, q1, c1, _⟩ := hit
      obtain ⟨o2, q2, c2, _⟩ := pt
      rw [z, q1] at q2
      cases q2
      rw [c1] at c2
      exact absurd c2 (by decide)
    have hae : e ≠ a := fun z => by
      obtain ⟨o2, q2, c2, _⟩ := pt
      rw [← z] at q2
      have := he.symm.trans q2
      cases this
      have c3 : Value.type "enumerate" = Value.type "tuple" := c2
      exact absurd c3 (by decide)
    refine PySem.wpAny_pyNext_enum_itemD (Draws.tuple (A := X.A.in1) (show X.A.in1.handled = none from I.ok.hd hc) it a hai its.toArray) he ⟨hit, pt⟩ (by
      have := (List.getElem?_eq_some_iff.mp hu).1
      simpa using this) hne (by simp [hne, hae]) fun x' h' tk hP ho hit' hT hsz hk => ?_
    have hu' : its.toArray[i]? = some u := by simpa using hu
    rw [hu'] at hP
    cases hP
    refine ⟨_, rfl, wpAny_letOwnedTupleGo_enum (s := { s with heap := h', toks := tk + 1 }) ho fun h'' he' sb => ?_⟩
    have hT2 : h''.get? s.heap.objs.size = some { cls := .type "tuple", data := .seq #[.int i tk, u] } := (sb.2 _ (Nat.ne_of_gt hel)).trans hT
    have new : ObjOk X.prog X.w (upd H s.heap.objs.size (.tup [.int (i : Nat), x])) h'' s.heap.objs.size (.tup [.int (i : Nat), x]) :=
      ⟨by show 2 ≤ sizeLine; decide, [.int i tk, u], .cons ⟨_, rfl⟩ (.cons ru .nil), ⟨_, hT2, rfl, _, rfl⟩⟩
    have I1 : Inv X pins σ (upd H s.heap.objs.size (.tup [.int (i : Nat), x])) { s with heap := h'', toks := tk + 1 } :=
      I.turnedNew (ch := [e, it]) (fun b ob hb q => (sb.2 b (fun z => hb (by simp [z]))).trans (hk b ob (fun z => hb (by simp [z])) (fun z => hb (by simp [z])) q)) hf (Nat.le_refl _) new
    refine ⟨.ref s.heap.objs.size, _, I1, rfl, ⟨_, x, rfl, I.hok.fresh (Nat.le_refl _), rfl, fun ys hy => by rw [I.tuple_inj hy hq]; exact hx⟩, ⟨⟨u, ?_⟩, hit'.1.at fun o q => (sb.2 it (Ne.symm hne)).trans q, hne⟩, fun b hb => ?_⟩
    · have e1 : ((i + 1 : Nat) : Int) = (i : Int) + 1 := by omega
      rw [e1]; exact he'
    · have hb' : b < s.heap.objs.size := by
        have e' : b = e ∨ b = it := by simpa using hb
        rcases e' with z | z
        · rw [z]; exact hel
        · rw [z]; exact hil
      rw [upd_ne (Nat.ne_of_lt hb')]
      exact (hf b hb).1
  done := by
    intro X hP hw hK hc i pins s σ H E I hf st hg
    subst hP hw hK
    obtain ⟨⟨old, he⟩, hit, hne⟩ := st
    obtain ⟨xs, hq, hx⟩ := hg
    obtain ⟨its, rv, p, hz⟩ := I.tuple hq
    obtain ⟨f0, f1, f2, f3, f4, f5⟩ := hf it (by simp)
    have hl := rv.length
    exact next_enumT_end (I.ok.hd hc) he hit (show s.heap.IsTuple a its.toArray from p) (by simp; omega) fun h' eb => ⟨rfl, I.turned (t' := s.toks) (fun b o hb q => eb b o hb q) f0 f1 f3 f4 f5⟩
  self := fun A i s Q E st h => let ⟨⟨_, he⟩, _⟩ := st; wpAny_pyIter_enum he h
def iEnumA (K : PySem.W.Frag) (ta : TA) : TI := fun σ H R => ta σ H fun vs H1 => ∃ a xs, vs = [.ref a] ∧ ((SqL K H1 a xs ∧ R (Ite K a) H1) ∨ (SqT K H1 a xs ∧ R (IteT K a) H1))
theorem pi_enumA {X : Cx} {e : Expr} {ta : TA} {p pos tpos : Pos} {elts : List Expr} {kk : Nat} (hg : L2.Gl X "enumerate") (hm : X.mg "enumerate" = none) (ha : PA X [e] ta) (hs : starEach [e] X.env = [(false, eval e X.env)] := by rfl) :
    PI X (.Tuple elts kk tpos) (.Call (.Name "enumerate" p) [e] [] pos) (iEnumA X.K ta) := by
  refine ⟨fun pins s σ H R I h => ?_⟩
  refine Call_ (ld_blt I hg hm boot_enumerate (PyProof.Rows.callWith_type1 (thn (ha.run pos pins s σ H _ I h) fun us s1 ⟨vs, H1, I1, r1, q1⟩ => ?_) hs rfl))
  obtain ⟨a, xs, ex, hq⟩ := q1
  subst ex
  cases r1 with
  | cons r rr =>
    cases rr
    cases r
    rcases hq with ⟨hq, q⟩ | ⟨hq, q⟩
    · obtain ⟨its, rv, p', hz⟩ := I1.list hq
      refine call_enumerate_list p'.isList fun h' he hit hsz hk => wpAny_pyIter_enum he ?_
      have I2 : Inv X pins σ H1 { s1 with heap := h' } := I1.kept (t' := s1.toks) hk
      refine ⟨s1.heap.objs.size + 1, [s1.heap.objs.size + 1, s1.heap.objs.size], _, _, H1, rfl, I2, turn_enum a (s1.heap.objs.size + 1) s1.heap.objs.size, ⟨⟨.none, he⟩, hit, Nat.succ_ne_self _⟩, fun b hb => ?_, q⟩
      have e' : b = s1.heap.objs.size + 1 ∨ b = s1.heap.objs.size := by simpa using hb
      have hle : s1.heap.objs.size ≤ b := by
        rcases e' with z | z
        · rw [z]; exact Nat.le_add_right _ _
        · rw [z]; exact Nat.le_refl _
      exact I1.fpOk hle (I1.hok.fresh hle)
    · obtain ⟨its, rv, p', hz⟩ := I1.tuple hq
      refine call_enumerate_tuple (show s1.heap.IsTuple a its.toArray from p') fun h' he hit hsz hk => wpAny_pyIter_enum he ?_
      have I2 : Inv X pins σ H1 { s1 with heap := h' } := I1.kept (t' := s1.toks) hk
      refine ⟨s1.heap.objs.size + 1, [s1.heap.objs.size + 1, s1.heap.objs.size], _, _, H1, rfl, I2, turn_enumT a (s1.heap.objs.size + 1) s1.heap.objs.size, ⟨⟨.none, he⟩, hit, Nat.succ_ne_self _⟩, fun b hb => ?_, q⟩
      have e' : b = s1.heap.objs.size + 1 ∨ b = s1.heap.objs.size := by simpa using hb
      have hle : s1.heap.objs.size ≤ b := by
        rcases e' with z | z
        · rw [z]; exact Nat.le_add_right _ _
        · rw [z]; exact Nat.le_refl _
      exact I1.fpOk hle (I1.hok.fresh hle)
end Ev
namespace Ev
open PySem PySem.Spec PyProof.Rows L2
/-- the tuple at a, the list at b, as they stand at each turn -/
def ItzM (K : PySem.W.Frag) (a b : Addr) : It where
  go := fun k H => ∃ us vs u v, SqT K H a us ∧ SqL K H b vs ∧ us[k]? = some u ∧ vs[k]? = some v
  yld := fun k H y H' => ∃ T u v, y = .ref T ∧ H T = none ∧ H' = upd H T (.tup [u, v]) ∧ (∀ us, SqT K H a us → us[k]? = some u) ∧ ∀ vs, SqL K H b vs → vs[k]? = some v
  stop := fun k H => ∃ us vs : List V, SqT K H a us ∧ SqL K H b vs ∧ k = min us.length vs.length
/-- the cells of such a zip -/
def ZmSt (a b z P O j1 j2 : Addr) (k : Nat) (h : Heap) : Prop := IsZip h z P O .none ∧ IsPair h P (.ref j1) (.ref j2) ∧ (∃ p q, IsPair h O p q) ∧ h.IsTupleIter j1 a k ∧ h.IsListIter j2 b k
theorem mem5 {c z P O j1 j2 : Addr} (h : c ∈ [z, P, O, j1, j2]) : c = z ∨ c = P ∨ c = O ∨ c = j1 ∨ c = j2 := by simpa using h
theorem zm_sep {a b z P O j1 j2 : Addr} (D : ZipApart z P O j1 j2 a b) : ZipSep2 z P O j1 j2 [j1, a] [j2, b] where
  TIz := D.TIz
  TOz := D.TOz
  TITO := D.TITO
  TIi1 := D.TIi1
  mem1 := by simp
  zf1 := by simp [D.i1z.symm, D.l1z.symm]
  Tf1 := by simp [D.TOi1, D.l1TO.symm]
  TIi2 := D.TIi2
  mem2 := by simp
  zf2 := by simp [D.i2z.symm, D.l2z.symm]
  Tf2 := by simp [D.TOi2, D.l2TO.symm]
  sep1_2 := by simp [D.i12, D.l2i1.symm]
  sep2_1 := by simp [D.i12.symm, D.l1i2.symm]
theorem turn_zipM {Pr : Program} {w : World} {K : PySem.W.Frag} {elts : List Expr} {m : Nat} {tp : Pos} {a b z P O j1 j2 : Addr} (D : ZipApart z P O j1 j2 a b) :
    Turn Pr w K (.Tuple elts m tp) (ItzM K a b) [z, P, O, j1, j2] z (ZmSt a b z P O j1 j2) := by
  refine ⟨List.mem_cons_self, ?_, ?_, ?_, ?_, fun A k s Q E st q => wpAny_pyIter_zip st.1 q⟩
  · rintro k h ⟨gz, gP, ⟨p, q, gO⟩, ⟨o1, g1, _, d1⟩, ⟨o2, g2, _, d2⟩⟩ c hc
    rcases mem5 hc with rfl | rfl | rfl | rfl | rfl
    · exact ⟨_, gz, nofun⟩
    · exact ⟨_, gP, nofun⟩
    · exact ⟨_, gO, nofun⟩
    · exact ⟨o1, g1, fun v y => by rw [d1] at y; cases y⟩
    · exact ⟨o2, g2, fun v y => by rw [d2] at y; cases y⟩
  · rintro k h h' ⟨gz, gP, ⟨p, q, gO⟩, g1, g2⟩ kp
    exact ⟨kp z (by simp) _ gz, kp P (by simp) _ gP, ⟨p, q, kp O (by simp) _ gO⟩, g1.at fun o y => kp j1 (by simp) o y, g2.at fun o y => kp j2 (by simp) o y⟩
  · rintro X rfl rfl rfl hc k pins s σ H E I hf ⟨gz, gP, ⟨p, q, gO⟩, g1, g2⟩ ⟨us, vs, u, v, qa, qb, hu, hv⟩
    obtain ⟨as, ra, ta, _⟩ := I.tuple qa
    obtain ⟨bs, rb, tb, _⟩ := I.list qb
    obtain ⟨x, hx, rx⟩ := ra.get hu
    obtain ⟨y, hy, ry⟩ := rb.get hv
    have hh : X.A.in1.handled = none := I.ok.hd hc
    have lx : k < as.toArray.size := by simpa using (List.getElem?_eq_some_iff.mp hx).1
    have ly : k < bs.toArray.size := by simpa using (List.getElem?_eq_some_iff.mp hy).1
    have zl := Heap.lt_size gz
    refine wpAny_pyNext_zipD2_item (zm_sep D) (Draws.tuple hh j1 a D.l1i1 as.toArray) (Draws.list hh j2 b D.l2i2 bs.toArray) gz gP gO ⟨g1, ta⟩ ⟨g2, tb.isList⟩ lx ly fun x1 x2 h1 tk e1 e2 n1 n2 n3 n4 n5 n6 n7 => ?_
    have e1 : x1 = x := by rw [show as.toArray[k]? = some x by simpa using hx] at e1; exact (Option.some.inj e1).symm
    have e2 : x2 = y := by rw [show bs.toArray[k]? = some y by simpa using hy] at e2; exact (Option.some.inj e2).symm
    subst e1 e2
    refine ⟨_, rfl, wpAny_letOwnedTupleGo_zip (s := { s with heap := h1, toks := tk }) n1 fun h2 nz sb => ?_⟩
    have hT : h2.get? s.heap.objs.size = some { cls := .type "tuple", data := .seq #[x1, x2] } := (sb.2 _ (Nat.ne_of_gt zl)).trans n5
    have made : ObjOk X.prog X.w (upd H s.heap.objs.size (.tup [u, v])) h2 s.heap.objs.size (.tup [u, v]) := ⟨by show 2 ≤ sizeLine; decide, [x1, x2], .cons rx (.cons ry .nil), ⟨_, hT, rfl, _, rfl⟩⟩
    have kept : ∀ c o, c ∉ [z, P, O, j1, j2] → s.heap.get? c = some o → h2.get? c = some o := fun c o n e => by
      simp only [List.mem_cons, List.not_mem_nil, or_false, not_or] at n
      exact (sb.2 c n.1).trans (n7 c o n.1 n.2.2.1 n.2.2.2.1 n.2.2.2.2 e)
    have I2 := I.turnedNew (t' := tk) kept hf (Nat.le_refl _) made
    refine ⟨.ref s.heap.objs.size, _, I2, rfl, ⟨_, u, v, rfl, I.hok.fresh (Nat.le_refl _), rfl, fun l hl => by rw [I.tuple_inj hl qa]; exact hu, fun l hl => by rw [I.list_inj hl qb]; exact hv⟩, ⟨nz, ?_, ⟨x1, x2, ?_⟩, ?_, ?_⟩, fun c hcm => ?_⟩
    · exact (sb.2 _ D.TIz).trans (n7 _ _ D.TIz D.TITO D.TIi1 D.TIi2 gP)
    · exact (sb.2 _ D.TOz).trans n2
    · exact n3.1.at fun o y => (sb.2 _ D.i1z).trans y
    · exact n4.1.at fun o y => (sb.2 _ D.i2z).trans y
    · have lt : c < s.heap.objs.size := by
        rcases mem5 hcm with rfl | rfl | rfl | rfl | rfl
        · exact zl
        · exact Heap.lt_size gP
        · exact Heap.lt_size gO
        · obtain ⟨_, y, _⟩ := g1; exact Heap.lt_size y
        · obtain ⟨_, y, _⟩ := g2; exact Heap.lt_size y
      rw [upd_ne (Nat.ne_of_lt lt)]
      exact (hf c hcm).1
  · rintro X rfl rfl rfl hc k pins s σ H E I hf ⟨gz, gP, ⟨p, q, gO⟩, g1, g2⟩ ⟨us, vs, qa, qb, hend⟩
    obtain ⟨as, ra, ta, _⟩ := I.tuple qa
    obtain ⟨bs, rb, tb, _⟩ := I.list qb
    have hh : X.A.in1.handled = none := I.ok.hd hc
    have sa : as.toArray.size = us.length := by rw [List.size_toArray, ra.length]
    have sb : bs.toArray.size = vs.length := by rw [List.size_toArray, rb.length]
    refine wpAny_pyNext_zipD2_end (zm_sep D) (Draws.tuple hh j1 a D.l1i1 as.toArray) (Draws.list hh j2 b D.l2i2 bs.toArray) gz gP gO ⟨g1, ta⟩ ⟨g2, tb.isList⟩ (by omega) (by omega) (by omega) fun h1 tk kp => ⟨rfl, ?_⟩
    exact I.turnedL (t' := tk) (ch := [z, P, O, j1, j2]) (fun c o n e => by
      simp only [List.mem_cons, List.not_mem_nil, or_false, not_or] at n
      exact kp c o n.1 n.2.2.1 n.2.2.2.1 n.2.2.2.2 e) hf
/-- zip(x, y) is made: of a tuple and a list -/
theorem zipM_made (l m : Addr) (xs ys : Array Value) : Meets (Builtin.«zip.__new__» ⟨[.type "zip", .ref l, .ref m], []⟩) fun _ R s => s.heap.IsTuple l xs ∧ s.heap.IsList m ys ∧
    ∀ h1, h1 = (s.heap.push { cls := .type "tuple_iterator", data := .fields #[.ref l, .int 0 0] }) → ∀ h2, h2 = (h1.push { cls := .type "list_iterator", data := .fields #[.ref m, .int 0 0] }) →
      ∀ h3, h3 = (h2.push { cls := .type "tuple", data := .seq #[.ref s.heap.objs.size, .ref h1.objs.size] }) → ∀ h4, h4 = (h3.push { cls := .type "tuple", data := .seq #[.none, .none] }) →
        R (.ok (.ret (.ref h4.objs.size))) { s with heap := h4.push { cls := .type "zip", data := .fields #[.none, .bool false, .bool false, .ref h2.objs.size, .ref h3.objs.size] } } :=
  .of_wp fun prog w A R s q => by
    obtain ⟨hp, g, d, tk, os⟩ := s
    obtain ⟨ql, qm, q⟩ := q
    replace q := q _ rfl _ rfl _ rfl _ rfl
    have kid := sub_zip
    have w1 : Heap.IsTuple (Shared.heap ⟨hp, g, d, tk, os⟩) l xs := ql
    have w2 : Heap.IsList (Shared.heap ⟨hp.push { cls := .type "tuple_iterator", data := .fields #[.ref l, .int 0 0] }, g, d, tk, os⟩) m ys := Heap.IsList.push qm _
    wp_walk using wpAny_pyIter_tuple w1, wpAny_pyIter_list w2
    exact ⟨_, rfl, q⟩
section
variable {prog : Program} {w : World} {A : Around} {E : Value → Shared → Prop} {s : Shared}
theorem call_zipM {l m : Addr} {xs ys : Array Value} {Q : Value → Shared → Prop} (ql : s.heap.IsTuple l xs) (qm : s.heap.IsList m ys)
    (k : ∀ h', ZmSt l m (s.heap.objs.size + 4) (s.heap.objs.size + 2) (s.heap.objs.size + 3) s.heap.objs.size (s.heap.objs.size + 1) 0 h' → (∀ c o, s.heap.get? c = some o → h'.get? c = some o) → Q (.ref (s.heap.objs.size + 4)) { s with heap := h' }) :
    wpAny (model prog w) A (call (.type "zip") [.ref l, .ref m]) Q E s := by
  refine callType_new F.called_zip (by decide) (F.typeCall_zip_2 _ _) (F.newCall_zip_2 _ _) (fun o => F.args_object_init_3 o _ _) F.entry_zip_new (zipM_made l m xs ys) ⟨ql, qm, ?_⟩
  intro h1 e1 h2 e2 h3 e3 h4 e4
  have n1 : h1.objs.size = s.heap.objs.size + 1 := by rw [e1, Heap.size_push]
  have n2 : h2.objs.size = s.heap.objs.size + 2 := by rw [e2, Heap.size_push, n1]
  have n3 : h3.objs.size = s.heap.objs.size + 3 := by rw [e3, Heap.size_push, n2]
  have n4 : h4.objs.size = s.heap.objs.size + 4 := by rw [e4, Heap.size_push, n3]
  have a1 : h1.get? s.heap.objs.size = some { cls := .type "tuple_iterator", dict := none, data := .fields #[.ref l, .int 0 0] } := by rw [e1]; exact Heap.get?_push_size _ rfl
  have a2 : h2.get? (s.heap.objs.size + 1) = some { cls := .type "list_iterator", dict := none, data := .fields #[.ref m, .int 0 0] } := by rw [e2, ← n1]; exact Heap.get?_push_size _ rfl
  have a3 : h3.get? (s.heap.objs.size + 2) = some { cls := .type "tuple", dict := none, data := .seq #[.ref s.heap.objs.size, .ref h1.objs.size] } := by rw [e3, ← n2]; exact Heap.get?_push_size _ rfl
  have a4 : h4.get? (s.heap.objs.size + 3) = some { cls := .type "tuple", dict := none, data := .seq #[.none, .none] } := by rw [e4, ← n3]; exact Heap.get?_push_size _ rfl
  have k2 : ∀ c o, h1.get? c = some o → h2.get? c = some o := fun c o q => by rw [e2]; exact Heap.get?_push_of_some _ q
  have k3 : ∀ c o, h2.get? c = some o → h3.get? c = some o := fun c o q => by rw [e3]; exact Heap.get?_push_of_some _ q
  have k4 : ∀ c o, h3.get? c = some o → h4.get? c = some o := fun c o q => by rw [e4]; exact Heap.get?_push_of_some _ q
  rw [n1] at a3
  show _ ∧ _
  rw [n2, n3, n4]
  have a5 : (h4.push { cls := .type "zip", dict := none, data := .fields #[.none, .bool false, .bool false, .ref (s.heap.objs.size + 2), .ref (s.heap.objs.size + 3)] }).get? (s.heap.objs.size + 4) = some { cls := .type "zip", dict := none, data := .fields #[.none, .bool false, .bool false, .ref (s.heap.objs.size + 2), .ref (s.heap.objs.size + 3)] } := by rw [← n4]; exact Heap.get?_push_size _ rfl
  have k5 : ∀ c o, h4.get? c = some o → (h4.push { cls := .type "zip", data := .fields #[.none, .bool false, .bool false, .ref (s.heap.objs.size + 2), .ref (s.heap.objs.size + 3)] }).get? c = some o := fun c o q => Heap.get?_push_of_some _ q
  refine ⟨⟨_, a5, rfl⟩, k _ ⟨a5, k5 _ _ (k4 _ _ a3), ⟨_, _, k5 _ _ a4⟩, ⟨_, k5 _ _ (k4 _ _ (k3 _ _ (k2 _ _ a1))), rfl, rfl⟩, ⟨_, k5 _ _ (k4 _ _ (k3 _ _ a2)), rfl, rfl⟩⟩ fun c o q => ?_⟩
  exact k5 _ _ (k4 _ _ (k3 _ _ (k2 _ _ (by rw [e1]; exact Heap.get?_push_of_some _ q))))
end
/-- zip(x, y): of lists, of tuples, of a tuple and a list -/
def iZip3 (K : PySem.W.Frag) (ta : TA) : TI := fun σ H R => ta σ H fun vs H1 => ∃ a b xs ys, vs = [.ref a, .ref b] ∧
  ((SqL K H1 a xs ∧ SqL K H1 b ys ∧ R (Itz K a b) H1) ∨ (SqT K H1 a xs ∧ SqT K H1 b ys ∧ R (RZ.ItzT K a b) H1) ∨ (SqT K H1 a xs ∧ SqL K H1 b ys ∧ R (ItzM K a b) H1))
theorem pi_zip3 {X : Cx} {x y : Expr} {ta : TA} {p pos tp : Pos} {elts : List Expr} {m : Nat} (hg : L2.Gl X "zip") (hm : X.mg "zip" = none) (ha : PA X [x, y] ta)
    (n1 : starEach [x, y] X.env = (false, eval x X.env) :: starEach [y] X.env := by rfl) (n2 : (backTo pos (starEach [y] X.env)).any (·.1) = false := by rfl) :
    PI X (.Tuple elts m tp) (.Call (.Name "zip" p) [x, y] [] pos) (iZip3 X.K ta) := by
  refine ⟨fun pins s σ H R I h => ?_⟩
  refine Call_ (ld_blt I hg hm PyProof.Rows.boot_zip (PyProof.Rows.callWith_type1 (thn (ha.run pos pins s σ H _ I h) fun us s1 z => ?_) n1 n2))
  obtain ⟨vs, H1, J, rr, z⟩ := z
  obtain ⟨a, b, xs, ys, ev, q⟩ := z
  subst ev
  match us, rr with
  | [_, _], .cons r1 (.cons r2 .nil) =>
    cases r1
    cases r2
    have fp : ∀ c, c ∈ [s1.heap.objs.size + 4, s1.heap.objs.size + 2, s1.heap.objs.size + 3, s1.heap.objs.size, s1.heap.objs.size + 1] → FpOk X pins H1 c := fun c hc => by
      have le : s1.heap.objs.size ≤ c := by
        rcases mem5 hc with rfl | rfl | rfl | rfl | rfl
        · exact Nat.le_add_right _ _
        · exact Nat.le_add_right _ _
        · exact Nat.le_add_right _ _
        · exact Nat.le_refl _
        · exact Nat.le_add_right _ _
      exact J.fpOk le (J.hok.fresh le)
    rcases q with ⟨qa, qb, q⟩ | ⟨qa, qb, q⟩ | ⟨qa, qb, q⟩
    · obtain ⟨as, _, ta, _⟩ := J.list qa
      obtain ⟨bs, _, tb, _⟩ := J.list qb
      refine call_zip_2 ta.isList tb.isList fun h' g1 g2 g3 g4 g5 _ kp => wpAny_pyIter_zip g1 ⟨_, _, _, _, H1, rfl, J.kept (t' := s1.toks) kp, turn_zip (PySem.W.ktu_apart s1.heap.objs.size a b ta.lt tb.lt), ⟨g1, g2, ⟨_, _, g3⟩, g4, g5⟩, fp, q⟩
    · obtain ⟨as, _, ta, _⟩ := J.tuple qa
      obtain ⟨bs, _, tb, _⟩ := J.tuple qb
      obtain ⟨_, la, _⟩ := id ta
      obtain ⟨_, lb, _⟩ := id tb
      refine RZ.call_zipT (xs := as.toArray) (ys := bs.toArray) ta tb fun h' g1 g2 g3 g4 g5 _ kp => wpAny_pyIter_zip g1 ⟨_, _, _, _, H1, rfl, J.kept (t' := s1.toks) kp, RZ.turn_zipT (PySem.W.ktu_apart s1.heap.objs.size a b (Heap.lt_size la) (Heap.lt_size lb)), ⟨g1, g2, ⟨_, _, g3⟩, g4, g5⟩, fp, q⟩
    · obtain ⟨as, _, ta, _⟩ := J.tuple qa
      obtain ⟨bs, _, tb, _⟩ := J.list qb
      obtain ⟨_, la, _⟩ := id ta
      refine call_zipM (xs := as.toArray) ta tb.isList fun h' g kp => wpAny_pyIter_zip g.1 ⟨_, _, _, _, H1, rfl, J.kept (t' := s1.toks) kp, turn_zipM (PySem.W.ktu_apart s1.heap.objs.size a b (Heap.lt_size la) tb.lt), g, fp, q⟩
end Ev
namespace Ev
open PySem PySem.Spec PyProof.Rows L2
inductive RG where
  | ok (e : En) (A : Hs)
  | bad
abbrev CG := AV → En → Hs → RG
def sNil : CS := fun e A => .nx e A
def sSeq (s t : CS) : CS := fun e A => match s e A with
  | .nx e A => t e A
  | .rt v A => .rt v A
  | .bk e A => .bk e A
  | .bad => .bad
def sExpr (c : CE) : CS := fun e A => match c e A with
  | .ok _ A => .nx e A
  | .bad => .bad
def sRet (c : CE) : CS := fun e A => match c e A with
  | .ok v A => .rt v A
  | .bad => .bad
def sRetN : CS := fun _ A => .rt .non A
def sBrk : CS := fun e A => .bk e A
def sBad : CS := fun _ _ => .bad
def onBS (x : AV) (k : Bool → RS) : RS := match x with
  | .bl b => k b
  | _ => .bad
def sIf (c : CE) (a b : CS) : CS := fun e A => match c e A with
  | .ok v A => onBS v fun t => pick t (a e A) (b e A)
  | .bad => .bad
def gN (i : Nat) : CG := fun v e A => .ok (e.set i v) A
def gsNil : List AV → En → Hs → RG := fun vs e A => match vs with
  | [] => .ok e A
  | _ => .bad
def gsCons (g : CG) (r : List AV → En → Hs → RG) : List AV → En → Hs → RG := fun vs e A => match vs with
  | [] => .bad
  | v :: vs => (match g v e A with
    | .ok e A => r vs e A
    | .bad => .bad)
def tupOf : AV → Option (List AV)
  | .tup xs => some xs
  | .mix xs => some xs
  | _ => none
def gTup' (n : Nat) (r : List AV → En → Hs → RG) : CG := fun v e A => match tupOf v with
  | some xs => (match decide (xs.length = n) with
    | true => r xs e A
    | false => .bad)
  | none => .bad
theorem tupOf_ok {G : Gl} {ρ : Rho} {H : Hp} {v : AV} {x : V} {xs : List AV} (h : VRel G ρ H false v x) (e : tupOf v = some xs) : ∃ a vs, x = .ref a ∧ FzT G.K ρ H a vs ∧ VRels G ρ H false xs vs := by
  cases h with
  | tup f q => cases e; exact ⟨_, _, rfl, f, q.wk⟩
  | mix f q => cases e; exact ⟨_, _, rfl, f, q⟩
  | _ => cases e
/-- o[i] = v -/
def gSub' (o i : CE) : CG := fun v e A => match o e A with
  | .ok x A => (match i e A with
    | .ok y A => (match y with
      | .int k => (match x with
        | .ref j => (match A[j]? with
          | some (.lst ys) => (match ixN ys.length k with
            | some m => .ok e (A.set j (.lst (ys.set m v)))
            | none => .bad)
          | _ => .bad)
        | _ => .bad)
      | _ => .bad)
    | .bad => .bad)
  | .bad => .bad
def sAsg (c : CE) (g : CG) : CS := fun e A => match c e A with
  | .ok v A => (match g v e A with
    | .ok e A => .nx e A
    | .bad => .bad)
  | .bad => .bad
/-- name op= e -/
def sAug (i : Nat) (f : AV → AV → Hs → R) (c : CE) : CS := fun e A => match cVar i e A with
  | .ok x A => (match c e A with
    | .ok y A => (match f x y A with
      | .ok z A => .nx (e.set i z) A
      | .bad => .bad)
    | .bad => .bad)
  | .bad => .bad
def sWhile (c : CE) (b : CS) : Nat → CS
  | 0 => sBad
  | n + 1 => fun e A => match c e A with
    | .ok v A => onBS v fun t => pick t (match b e A with
      | .nx e A => sWhile c b n e A
      | .bk e A => .nx e A
      | .rt v A => .rt v A
      | .bad => .bad) (.nx e A)
    | .bad => .bad
/-- what is wanted behind a statement -/
def KS (G : Gl) (ρ : Rho) (H : Hp) (D : Ends) : RS → Prop
  | .nx e A => ∀ ρ' H' σ', Ext ρ H ρ' H' → Rel G ρ' A H' → ERel G ρ' H' e σ' → D.nx σ' H'
  | .rt v A => ∀ ρ' H' x, Ext ρ H ρ' H' → Rel G ρ' A H' → VRel G ρ' H' false v x → D.rt x H'
  | .bk e A => ∀ ρ' H' σ', Ext ρ H ρ' H' → Rel G ρ' A H' → ERel G ρ' H' e σ' → D.bk σ' H'
  | .bad => False
def tS (G : Gl) (c : CS) : TS := fun D σ H => ∃ ρ A e, Rel G ρ A H ∧ ERel G ρ H e σ ∧ KS G ρ H D (c e A)
abbrev PSc (G : Gl) (X : Cx) (s : Stmt) (c : CS) : Prop := PS X s (tS G c)
abbrev PSsc (G : Gl) (X : Cx) (s : List Stmt) (c : CS) : Prop := PSs X s (tS G c)
def tG (G : Gl) (g : CG) : TG := fun v σ H Q => ∃ ρ A e u, Rel G ρ A H ∧ ERel G ρ H e σ ∧ VRel G ρ H false u v ∧ ∃ e' A', g u e A = .ok e' A' ∧ ∀ ρ' H' σ', Ext ρ H ρ' H' → Rel G ρ' A' H' → ERel G ρ' H' e' σ' → Q σ' H'
def tGs (G : Gl) (g : List AV → En → Hs → RG) : TGs := fun vs σ H Q => ∃ ρ A e us, Rel G ρ A H ∧ ERel G ρ H e σ ∧ VRels G ρ H false us vs ∧ ∃ e' A', g us e A = .ok e' A' ∧ ∀ ρ' H' σ', Ext ρ H ρ' H' → Rel G ρ' A' H' → ERel G ρ' H' e' σ' → Q σ' H'
abbrev PGc (G : Gl) (X : Cx) (e : Expr) (g : CG) : Prop := PG X e (tG G g)
abbrev PGsc (G : Gl) (X : Cx) (e : List Expr) (g : List AV → En → Hs → RG) : Prop := PGs X e (tGs G g)
theorem _root_.L2.PG.imp {X : Cx} {e : Expr} {t u : TG} (h : PG X e t) (i : ∀ v σ H Q, u v σ H Q → t v σ H Q) : PG X e u := ⟨fun pins s σ H v w Q I r q => h.run pins s σ H v w Q I r (i v σ H Q q)⟩
theorem _root_.L2.PGs.imp {X : Cx} {e : List Expr} {t u : TGs} (h : PGs X e t) (i : ∀ v σ H Q, u v σ H Q → t v σ H Q) : PGs X e u := ⟨fun pins s σ H v w Q I r q => h.run pins s σ H v w Q I r (i v σ H Q q)⟩
section
variable {G : Gl} {X : Cx} {a b c e o i : Expr} {es : List Expr} {ca cb cc ce co ci : CE} {s t : CS} {st : Stmt} {sts sts2 : List Stmt} {pos p2 p3 : Pos} {σ : L2.St} {H H1 : Hp} {D : Ends} {ρ ρ1 : Rho} {A A1 : Hs}
theorem KS.at {r : RS} (h : KS G ρ H D r) (x : Ext ρ H ρ1 H1) (rel : Rel G ρ1 A1 H1) : KS G ρ1 H1 D r := by
  cases r with
  | nx e A => exact fun ρ' H' σ' ex r er => h ρ' H' σ' (x.trans rel ex) r er
  | rt v A => exact fun ρ' H' y ex r er => h ρ' H' y (x.trans rel ex) r er
  | bk e A => exact fun ρ' H' σ' ex r er => h ρ' H' σ' (x.trans rel ex) r er
  | bad => exact h
theorem KS.imp {D' : Ends} {r : RS} (h : KS G ρ H D r) (h1 : ∀ σ H, D.nx σ H → D'.nx σ H) (h2 : ∀ v H, D.rt v H → D'.rt v H) (h3 : ∀ σ H, D.bk σ H → D'.bk σ H) : KS G ρ H D' r := by
  cases r with
  | nx e A => exact fun ρ' H' σ' ex r er => h1 _ _ (h ρ' H' σ' ex r er)
  | rt v A => exact fun ρ' H' y ex r er => h2 _ _ (h ρ' H' y ex r er)
  | bk e A => exact fun ρ' H' σ' ex r er => h3 _ _ (h ρ' H' σ' ex r er)
  | bad => exact h
theorem tS.imp {D' : Ends} (h : tS G s D σ H) (h1 : ∀ σ H, D.nx σ H → D'.nx σ H) (h2 : ∀ v H, D.rt v H → D'.rt v H) (h3 : ∀ σ H, D.bk σ H → D'.bk σ H) : tS G s D' σ H := by
  obtain ⟨ρ, A, e, r, er, k⟩ := h
  exact ⟨ρ, A, e, r, er, k.imp h1 h2 h3⟩
theorem pssc_nil : PSsc G X [] sNil := pss_nil.imp fun D σ H h => by
  obtain ⟨ρ, A, e, r, er, k⟩ := h
  exact k ρ H σ (Ext.refl _ _) r er
theorem KS.seq {A : Hs} {e : En} (k : KS G ρ H D (sSeq s t e A)) : KS G ρ H { D with nx := tS G t D } (s e A) := by
  unfold sSeq at k
  cases h : s e A with
  | nx e1 A1 => rw [h] at k; exact fun ρ' H' σ' ex r er => ⟨ρ', A1, e1, r, er, KS.at k ex r⟩
  | rt v A1 => rw [h] at k; exact k
  | bk e1 A1 => rw [h] at k; exact k
  | bad => rw [h] at k; exact k
theorem pssc_cons (h1 : PSc G X st s) (h2 : PSsc G X sts t) : PSsc G X (st :: sts) (sSeq s t) := (pss_cons h1 h2).imp fun D σ H h => by
  obtain ⟨ρ, A, e, r, er, k⟩ := h
  exact ⟨ρ, A, e, r, er, k.seq⟩
theorem pssc_one (h1 : PSc G X st s) : PSsc G X [st] s := pss_one h1
theorem psc_break : PSc G X (.Break pos) sBrk := ps_break.imp fun D σ H h => by
  obtain ⟨ρ, A, e, r, er, k⟩ := h
  exact k ρ H σ (Ext.refl _ _) r er
theorem psc_never : PSc G X st sBad := ps_never.imp fun D σ H h => by
  obtain ⟨ρ, A, e, r, er, k⟩ := h
  exact k
/-- an expression ahead -/
theorem KS.ofE {k : AV → Hs → RS} {A : Hs} {e : En} (r : Rel G ρ A H) (er : ERel G ρ H e σ) {f : CS} (hf : ∀ A, f e A = match ca e A with | .ok v A => k v A | .bad => .bad) (h : KS G ρ H D (f e A)) :
    tE G ca σ H fun x H1 => ∃ ρ1 A1 v, Rel G ρ1 A1 H1 ∧ ERel G ρ1 H1 e σ ∧ VRel G ρ1 H1 false v x ∧ KS G ρ1 H1 D (k v A1) := by
  rw [hf] at h
  cases hc : ca e A with
  | bad => rw [hc] at h; exact h.elim
  | ok v B =>
    rw [hc] at h
    exact ⟨ρ, A, e, r, er, .nil, v, B, hc, fun ρ1 H1 x ex r1 vx => ⟨ρ1, B, v, r1, er.mono ex, vx, KS.at h ex r1⟩⟩
theorem psc_expr (h : PEc G X a ca) (hs : swapsWith a none pos.line X.env = pure false := by rfl) : PSc G X (.Expr a pos) (sExpr ca) := (ps_expr h hs).imp fun D σ H h => by
  obtain ⟨ρ, A, e, r, er, k⟩ := h
  exact tEh.imp (KS.ofE (k := fun _ A => .nx e A) r er (fun A => by unfold sExpr; rfl) k) fun x H1 ⟨ρ1, A1, v, r1, er1, vx, k⟩ => k ρ1 H1 σ (Ext.refl _ _) r1 er1
theorem psc_ret (h : PEc G X a ca) : PSc G X (.Return (some a) pos) (sRet ca) := (ps_ret h).imp fun D σ H h => by
  obtain ⟨ρ, A, e, r, er, k⟩ := h
  exact tEh.imp (KS.ofE (k := fun v A => .rt v A) r er (fun A => by unfold sRet; rfl) k) fun x H1 ⟨ρ1, A1, v, r1, er1, vx, k⟩ => k ρ1 H1 x (Ext.refl _ _) r1 vx
theorem KS.bool {ρ : Rho} {v : AV} {x : V} {k : Bool → RS} (vx : VRel G ρ H false v x) (h : KS G ρ H D (onBS v k)) : ∃ b, x = .bl b ∧ KS G ρ H D (k b) := by
  cases vx with
  | bl => exact ⟨_, rfl, h⟩
  | _ => exact h.elim
theorem psc_if (hc : PTc G X c cc) (ha : PSsc G X sts s) (hb : PSsc G X sts2 t) : PSc G X (.If c sts sts2 pos) (sIf cc s t) := (ps_if hc ha hb).imp fun D σ H h => by
  obtain ⟨ρ, A, e, r, er, k⟩ := h
  refine tEh.imp (KS.ofE (k := fun v A => onBS v fun q => pick q (s e A) (t e A)) r er (fun A => by unfold sIf; rfl) k) fun x H1 ⟨ρ1, A1, v, r1, er1, vx, k⟩ => ?_
  obtain ⟨b, e1, k⟩ := KS.bool vx k
  refine ⟨b, e1, ?_⟩
  cases b with
  | true => exact ⟨ρ1, A1, e, r1, er1, k⟩
  | false => exact ⟨ρ1, A1, e, r1, er1, k⟩
theorem pgc_name {i : Nat} {x : Str} (hN : X.N.Nodup) (hi : X.N[i]? = some x) (hx : Loc X.env.scope x) (hf : X.fn x = true ∨ X.env.scope.names.lookup x = some .local := by first | exact .inl rfl | exact .inr rfl | assumption) : PGc G X (.Name x pos) (gN i) := (pg_name hN hi hx hf).imp fun v σ H Q h => by
  obtain ⟨ρ, A, e, u, r, er, vu, e', A', hg, k⟩ := h
  cases hg
  exact k ρ H _ (Ext.refl _ _) r (er.set vu i)
theorem pgsc_nil : PGsc G X [] gsNil := pgs_nil.imp fun vs σ H Q h => by
  obtain ⟨ρ, A, e, us, r, er, vu, e', A', hg, k⟩ := h
  cases vu with
  | nil => cases hg; exact ⟨rfl, k ρ H _ (Ext.refl _ _) r er⟩
  | cons _ _ => cases hg
theorem pgsc_cons {g : CG} {gr : List AV → En → Hs → RG} (h1 : PGc G X e g) (h2 : PGsc G X es gr) (hs : (assignEach (e :: es) X.env).map (·.2) = assign e X.env :: (assignEach es X.env).map (·.2) := by rfl) : PGsc G X (e :: es) (gsCons g gr) := (pgs_cons h1 h2 hs).imp fun vs σ H Q h => by
  obtain ⟨ρ, A, e, us, r, er, vu, e', A', hg, k⟩ := h
  cases vu with
  | nil => cases hg
  | @cons _ x xs v vs h t =>
    unfold gsCons at hg
    dsimp only at hg
    cases h1 : g x e A with
    | bad => rw [h1] at hg; cases hg
    | ok e1 B =>
      rw [h1] at hg
      exact ⟨v, vs, rfl, ρ, A, e, x, r, er, h, e1, B, h1, fun ρ1 H1 σ1 ex r1 er1 => ⟨ρ1, B, e1, xs, r1, er1, t.mono ex, e', A', hg, fun ρ2 H2 σ2 ex2 r2 er2 => k ρ2 H2 σ2 (ex.trans r1 ex2) r2 er2⟩⟩
theorem pgc_tup {k n : Nat} {fa fc : Nat → Addr} {gr : List AV → En → Hs → RG} (hc : X.calm = true) (h : PGsc (gl X fa fc) X es gr) (hn : (assignEach es X.env).length = n := by rfl) (hst : (assignEach es X.env).findIdx? (·.1) = none := by rfl) : PGc (gl X fa fc) X (.Tuple es k pos) (gTup' n gr) := (pg_tup hc h hn hst).imp fun v σ H Q h => by
  obtain ⟨ρ, A, e, u, r, er, vu, e', A', hg, k⟩ := h
  unfold gTup' at hg
  cases ht : tupOf u with
  | none => rw [ht] at hg; cases hg
  | some xs =>
    rw [ht] at hg
    dsimp only at hg
    obtain ⟨a, vs, rfl, f1, v1⟩ := tupOf_ok vu ht
    cases hl : decide (xs.length = n) with
    | false => rw [hl] at hg; cases hg
    | true =>
      rw [hl] at hg
      exact ⟨a, vs, rfl, f1.sq, by rw [← v1.length]; exact of_decide_eq_true hl, ρ, A, e, xs, r, er, v1, e', A', hg, k⟩
theorem pgc_sub (ho : PEc G X o co) (hi : PEc G X i ci)
    (ha : ∀ v, assign (.Subscript o i pos) X.env v = (do
      let ov ← holding [v] (eval o X.env)
      let iv ← holding [v, ov] (eval i X.env)
      standAt pos
      holding [v, ov, iv] (setItem ov iv v)
      release [v, ov, iv] []) := by intro _; rfl) : PGc G X (.Subscript o i pos) (gSub' co ci) := (pg_sub ho hi set_list ha).imp fun v σ H Q h => by
  obtain ⟨ρ, A, e, u, r, er, vu, e', A', hg, k⟩ := h
  unfold gSub' at hg
  cases h1 : co e A with
  | bad => rw [h1] at hg; cases hg
  | ok x B =>
    rw [h1] at hg
    dsimp only at hg
    cases h2 : ci e B with
    | bad => rw [h2] at hg; cases hg
    | ok y B2 =>
      rw [h2] at hg
      dsimp only at hg
      refine ⟨ρ, A, e, r, er, .nil, x, B, h1, fun ρ1 H1 xv ex1 r1 vx => ⟨ρ1, B, e, r1, er.mono ex1, .nil, y, B2, h2, fun ρ2 H2 yv ex2 r2 vy => ?_⟩⟩
      split at hg
      · split at hg
        · split at hg
          · rename_i ys hA
            split at hg
            · rename_i m hm
              cases hg
              cases vy
              have vx2 := vx.mono ex2
              cases vx2 with
              | @ref _ p hp =>
                obtain ⟨e2, vs, q1, q2⟩ := r2.cell _ _ p hA hp
                have on : ρ2.onC p.1 := (onC_of hp).1
                have vu2 := (vu.mono ex1).mono ex2
                have hx := ext_on (H := H2) on (.lst (vs.set m v))
                exact ⟨p.1, vs, _, m, rfl, rfl, q1, by rw [← q2.length]; exact hm, k ρ2 _ _ ((ex1.trans r1 ex2).trans r2 hx) (r2.set hp e2 (q2.set vu2 m)) (((er.mono ex1).mono ex2).mono hx)⟩
            · cases hg
          · cases hg
        · cases hg
      · cases hg
theorem KS.asg {g : CG} {e : En} {A : Hs} (r : Rel G ρ A H) (er : ERel G ρ H e σ) (k : KS G ρ H D (sAsg ca g e A)) : tE G ca σ H fun x H1 => tG G g x σ H1 D.nx := by
  refine tEh.imp (KS.ofE (k := fun v A => match g v e A with | .ok e A => RS.nx e A | .bad => .bad) r er (fun A => by unfold sAsg; rfl) k) fun x H1 ⟨ρ1, A1, v, r1, er1, vx, k⟩ => ?_
  cases hg : g v e A1 with
  | bad => rw [hg] at k; exact k.elim
  | ok e2 A2 => rw [hg] at k; exact ⟨ρ1, A1, e, v, r1, er1, vx, e2, A2, hg, k⟩
theorem psc_asg {g : CG} {tg : Expr} (he : PEc G X a ca) (hg : PGc G X tg g) (hs : swapsWithSole [tg] a pos.line X.env = pure false := by rfl) (hw : swappedStores [tg] a X.env = pure none := by rfl)
    (h1 : (assignEach [tg] X.env).map (·.2) = [assign tg X.env] := by rfl) : PSc G X (.Assign [tg] a pos) (sAsg ca g) := (ps_asg he hg hs hw h1).imp fun D σ H h => by
  obtain ⟨ρ, A, e, r, er, k⟩ := h
  exact KS.asg r er k
theorem psc_set {i : Nat} {x : Str} {pos' : Pos} (hN : X.N.Nodup) (hi : X.N[i]? = some x) (hx : Loc X.env.scope x) (he : PEc G X a ca) (hs : swapsWith a (some (.Name x pos')) pos.line X.env = pure false := by rfl) (hf : X.fn x = true ∨ X.env.scope.names.lookup x = some .local := by first | exact .inl rfl | exact .inr rfl | assumption) :
    PSc G X (.Assign [.Name x pos'] a pos) (sAsg ca (gN i)) := (ps_set hN hi hx he hs hf).imp fun D σ H h => by
  obtain ⟨ρ, A, e, r, er, k⟩ := h
  refine tEh.imp (KS.asg r er k) fun y H1 h => ?_
  obtain ⟨ρ1, A1, e1, u, r1, er1, vu, e', A', hg, k⟩ := h
  cases hg
  exact k ρ1 H1 _ (Ext.refl _ _) r1 (er1.set vu i)
theorem psc_aug {i : Nat} {x : Str} {pos' : Pos} {op : Operator} {f : AV → AV → Hs → R} (hN : X.N.Nodup) (hi : X.N[i]? = some x) (hx : Loc X.env.scope x) (he : PEc G X a ca) (ho : OpR X (inplaceOp op) (rOp G f)) (hf : X.fn x = true ∨ X.env.scope.names.lookup x = some .local := by first | exact .inl rfl | exact .inr rfl | assumption) :
    PSc G X (.AugAssign (.Name x pos') op a pos) (sAug i f ca) := (ps_aug (ti := rOp G f) hN hi hx he ho hf).imp fun D σ H h => by
  obtain ⟨ρ, A, e, r, er, k⟩ := h
  unfold sAug cVar at k
  cases hx : e[i]? with
  | none => rw [hx] at k; exact k.elim
  | some v =>
    rw [hx] at k
    have hv : v ≠ .und := fun z => by subst z; exact k.elim
    obtain ⟨xv, h1, h2⟩ := er.get hx hv
    have k' : KS G ρ H D (match ca e A with | .ok y A => (match f v y A with | .ok z A => RS.nx (e.set i z) A | .bad => .bad) | .bad => .bad) := by
      cases v <;> first | exact absurd rfl hv | exact k
    refine ⟨xv, h1, ?_⟩
    cases hc : ca e A with
    | bad => rw [hc] at k'; exact k'.elim
    | ok y B =>
      rw [hc] at k'
      dsimp only at k'
      refine ⟨ρ, A, e, r, er, .nil, y, B, hc, fun ρ1 H1 yv ex r1 vy => ?_⟩
      cases hz : f v y B with
      | bad => rw [hz] at k'; exact k'.elim
      | ok z B2 =>
        rw [hz] at k'
        exact ⟨v, y, ρ1, B, r1, .cons vy (.cons (h2.mono ex) .nil), z, B2, hz, fun ρ2 H2 w ex2 r2 vw => k' ρ2 H2 _ (ex.trans r1 ex2) r2 (((er.mono ex).mono ex2).set vw i)⟩
theorem psc_while {n : Nat} (hp : PassesOwn (model X.prog X.w) X.A X.env X.xe) (hc : PTc G X c cc) (hb : PSsc G X sts s) : PSc G X (.While c sts [] pos) (sWhile cc s n) := (ps_while hp hc hb).imp fun D σ H h => by
  obtain ⟨ρ, A, e, r, er, k⟩ := h
  refine ⟨fun m σ H => ∃ ρ A e, Rel G ρ A H ∧ ERel G ρ H e σ ∧ KS G ρ H D (sWhile cc s m e A), ⟨n, ρ, A, e, r, er, k⟩, ?_⟩
  rintro m σ H ⟨ρ, A, e, r, er, k⟩
  cases m with
  | zero => exact k.elim
  | succ m =>
    refine tEh.imp (KS.ofE (k := fun v A => onBS v fun t => pick t (match s e A with | .nx e A => sWhile cc s m e A | .bk e A => .nx e A | .rt v A => .rt v A | .bad => .bad) (.nx e A)) (f := sWhile cc s (m + 1)) r er (fun A => rfl) k) fun x H1 ⟨ρ1, A1, v, r1, er1, vx, k⟩ => ?_
    obtain ⟨b, e1, k⟩ := KS.bool vx k
    refine ⟨b, e1, ?_⟩
    cases b with
    | false => exact k ρ1 H1 σ (Ext.refl _ _) r1 er1
    | true =>
      refine ⟨fun σ' H' => ∃ ρ A e, Rel G ρ A H' ∧ ERel G ρ H' e σ' ∧ KS G ρ H' D (sWhile cc s m e A), fun σ' H' h => ⟨m, Nat.lt_succ_self _, h⟩, ρ1, A1, e, r1, er1, ?_⟩
      dsimp only [pick] at k
      cases hs : s e A1 with
      | nx e2 A2 => rw [hs] at k; exact fun ρ' H' σ' ex r er => ⟨ρ', A2, e2, r, er, KS.at k ex r⟩
      | bk e2 A2 => rw [hs] at k; exact k
      | rt v2 A2 => rw [hs] at k; exact k
      | bad => rw [hs] at k; exact k
end
inductive Src where
  | lst (x : AV)
  | tup (xs : List AV)
  | rng (lo : Int) (n : Nat)
  | rdn (lo : Int) (n : Nat)
  | enuL (x : AV)
  | enuT (xs : List AV)
  | zipL (x y : AV)
  | zipT (xs ys : List AV)
  | zipM (xs : List AV) (y : AV)
  | kys (b : Bool) (ks : List (List Key))
  | its (ks : List (List Key)) (xs : List AV)
  | vls (xs : List AV)
/-- a key as a value -/
def kA : Key → AV
  | .inl i => .int i
  | .inr x => .str x
def keyV : Bool → List Key → AV
  | true, k => .tup (k.map kA)
  | false, [k] => kA k
  | false, _ => .non
inductive RI where
  | ok (s : Src) (A : Hs)
  | bad
abbrev CI := En → Hs → RI
def okItem (x : Option AV) : Option (Option AV) := some x
/-- what comes at turn k: none: it cannot be told; some none: the end -/
def Src.at : Src → Hs → Nat → Option (Option AV)
  | .lst x, A, k => (match sqlOf A x with
    | some xs => some xs[k]?
    | none => none)
  | .tup xs, _, k => some xs[k]?
  | .rng lo n, _, k => (match Nat.blt k n with
    | true => some (some (.int (lo + (k : Nat))))
    | false => some none)
  | .rdn lo n, _, k => (match Nat.blt k n with
    | true => some (some (.int (lo - (k : Nat))))
    | false => some none)
  | .enuL x, A, k => (match sqlOf A x with
    | some xs => (match xs[k]? with
      | some v => some (some (mkT [.int (k : Nat), v]))
      | none => some none)
    | none => none)
  | .enuT xs, _, k => (match xs[k]? with
    | some v => some (some (mkT [.int (k : Nat), v]))
    | none => some none)
  | .zipL x y, A, k => (match sqlOf A x with
    | some xs => (match sqlOf A y with
      | some ys => (match xs[k]? with
        | some v => (match ys[k]? with
          | some w => some (some (mkT [v, w]))
          | none => some none)
        | none => some none)
      | none => none)
    | none => none)
  | .zipT xs ys, _, k => (match xs[k]? with
    | some v => (match ys[k]? with
      | some w => some (some (mkT [v, w]))
      | none => some none)
    | none => some none)
  | .zipM xs y, A, k => (match sqlOf A y with
    | some ys => (match xs[k]? with
      | some v => (match ys[k]? with
        | some w => some (some (mkT [v, w]))
        | none => pick (Nat.beq k ys.length) (some none) none)
      | none => pick (Nat.beq k xs.length && Nat.ble k ys.length) (some none) none)
    | none => none)
  | .kys b ks, _, k => (match ks[k]? with
    | some v => some (some (keyV b v))
    | none => some none)
  | .its ks xs, _, k => (match ks[k]? with
    | some v => (match xs[k]? with
      | some w => some (some (mkT [keyV false v, w]))
      | none => some none)
    | none => some none)
  | .vls xs, _, k => some xs[k]?
/-- a dict that is locked, and how its keys are walked -/
inductive FzD (H : Hp) (d : Addr) : Bool → List (List Key) → List V → It → Prop
  | k {o : Obj} {js : List Key} {vs : List V} : js.length = vs.length → H d = some (.frz o (.dK (js.zip vs))) → FzD H d false (js.map fun k => [k]) vs (Itk d o (js.zip vs))
  | t {o : Obj} {ks : List (List Key)} {vs : List V} : ks.length = vs.length → H d = some (.frz o (.dT (ks.zip vs))) → FzD H d true ks vs (Itkt d o (ks.zip vs))
inductive FzI (H : Hp) (d : Addr) : List (List Key) → List V → It → It → Prop
  | k {o : Obj} {js : List Key} {vs : List V} : js.length = vs.length → H d = some (.frz o (.dK (js.zip vs))) → FzI H d (js.map fun k => [k]) vs (Iti d o (js.zip vs)) (Itd d o (js.zip vs))
theorem FzD.at {H H' : Hp} {d : Addr} {b : Bool} {ks : List (List Key)} {vs : List V} {J : It} (h : FzD H d b ks vs J) (e : ∀ o u, H d = some (.frz o u) → H' d = some (.frz o u)) : FzD H' d b ks vs J := by
  cases h with
  | k l h => exact .k l (e _ _ h)
  | t l h => exact .t l (e _ _ h)
theorem FzI.at {H H' : Hp} {d : Addr} {ks : List (List Key)} {vs : List V} {J J' : It} (h : FzI H d ks vs J J') (e : ∀ o u, H d = some (.frz o u) → H' d = some (.frz o u)) : FzI H' d ks vs J J' := by
  cases h with
  | k l h => exact .k l (e _ _ h)
theorem FzD.some {H : Hp} {d : Addr} {b : Bool} {ks : List (List Key)} {vs : List V} {J : It} (h : FzD H d b ks vs J) : ∃ o u, H d = some (.frz o u) := by
  cases h with
  | k l h => exact ⟨_, _, h⟩
  | t l h => exact ⟨_, _, h⟩
theorem FzI.some {H : Hp} {d : Addr} {ks : List (List Key)} {vs : List V} {J J' : It} (h : FzI H d ks vs J J') : ∃ o u, H d = some (.frz o u) := by
  cases h with
  | k l h => exact ⟨_, _, h⟩
def SrcRel (G : Gl) (ρ : Rho) (H : Hp) : Src → It → Prop
  | .lst x, J => ∃ a, VRel G ρ H false x (.ref a) ∧ J = Itl G.K a
  | .tup xs, J => ∃ a vs, FzT G.K ρ H a vs ∧ VRels G ρ H false xs vs ∧ J = Itt G.K a
  | .rng lo n, J => J = Itr lo n
  | .rdn lo n, J => J = Itc lo (-1) n
  | .enuL x, J => ∃ a, VRel G ρ H false x (.ref a) ∧ J = Ite G.K a
  | .enuT xs, J => ∃ a vs, FzT G.K ρ H a vs ∧ VRels G ρ H false xs vs ∧ J = IteT G.K a
  | .zipL x y, J => ∃ a b, VRel G ρ H false x (.ref a) ∧ VRel G ρ H false y (.ref b) ∧ J = Itz G.K a b
  | .zipT xs ys, J => ∃ a b vs ws, FzT G.K ρ H a vs ∧ VRels G ρ H false xs vs ∧ FzT G.K ρ H b ws ∧ VRels G ρ H false ys ws ∧ J = RZ.ItzT G.K a b
  | .zipM xs y, J => ∃ a b vs, FzT G.K ρ H a vs ∧ VRels G ρ H false xs vs ∧ VRel G ρ H false y (.ref b) ∧ J = ItzM G.K a b
  | .kys b ks, J => ∃ d vs, FzD H d b ks vs J ∧ ¬ ρ.on d
  | .its ks xs, J => ∃ d vs J', FzI H d ks vs J J' ∧ ¬ ρ.on d ∧ VRels G ρ H false xs vs
  | .vls xs, J => ∃ d ks vs J', FzI H d ks vs J' J ∧ ¬ ρ.on d ∧ VRels G ρ H false xs vs
section
variable {G : Gl} {ρ ρ' : Rho} {H H' : Hp} {A : Hs} {J : It}
theorem SrcRel.mono {s : Src} (h : SrcRel G ρ H s J) (e : Ext ρ H ρ' H') : SrcRel G ρ' H' s J := by
  cases s with
  | lst x => obtain ⟨a, h, j⟩ := h; exact ⟨a, h.mono e, j⟩
  | tup xs => obtain ⟨a, vs, f, h, j⟩ := h; exact ⟨a, vs, f.mono e, h.mono e, j⟩
  | rng lo n => exact h
  | rdn lo n => exact h
  | enuL x => obtain ⟨a, h, j⟩ := h; exact ⟨a, h.mono e, j⟩
  | enuT xs => obtain ⟨a, vs, f, h, j⟩ := h; exact ⟨a, vs, f.mono e, h.mono e, j⟩
  | zipL x y => obtain ⟨a, b, h1, h2, j⟩ := h; exact ⟨a, b, h1.mono e, h2.mono e, j⟩
  | zipT x y => obtain ⟨a, b, vs, ws, f1, h1, f2, h2, j⟩ := h; exact ⟨a, b, vs, ws, f1.mono e, h1.mono e, f2.mono e, h2.mono e, j⟩
  | zipM x y => obtain ⟨a, b, vs, f1, h1, h2, j⟩ := h; exact ⟨a, b, vs, f1.mono e, h1.mono e, h2.mono e, j⟩
  | kys b ks => obtain ⟨d, vs, f, n⟩ := h; obtain ⟨o, u, q⟩ := f.some; exact ⟨d, vs, f.at fun _ _ q => e.kp q n, e.on q n⟩
  | its ks xs => obtain ⟨d, vs, J', f, n, h⟩ := h; obtain ⟨o, u, q⟩ := f.some; exact ⟨d, vs, J', f.at fun _ _ q => e.kp q n, e.on q n, h.mono e⟩
  | vls xs => obtain ⟨d, ks, vs, J', f, n, h⟩ := h; obtain ⟨o, u, q⟩ := f.some; exact ⟨d, ks, vs, J', f.at fun _ _ q => e.kp q n, e.on q n, h.mono e⟩
/-- a list, a tuple is read in one way -/
structure One (K : PySem.W.Frag) (H : Hp) : Prop where
  l : ∀ a xs ys, SqL K H a xs → SqL K H a ys → xs = ys
  t : ∀ a xs ys, SqT K H a xs → SqT K H a ys → xs = ys
theorem src_stop {s : Src} {k : Nat} (rel : Rel G ρ A H) (h : SrcRel G ρ H s J) (e : s.at A k = some none) : J.stop k H := by
  cases s with
  | lst x =>
    obtain ⟨a, hv, rfl⟩ := h
    unfold Src.at at e
    dsimp only at e
    split at e
    · rename_i xs e1
      obtain ⟨a', vs, z, q, vv⟩ := sqlOf_ok rel hv e1
      cases z
      refine ⟨vs, q, ?_⟩
      have : xs[k]? = none := Option.some.inj e
      rw [← vv.length]
      exact List.getElem?_eq_none_iff.mp this
    · cases e
  | tup xs =>
    obtain ⟨a, vs, f, vv, rfl⟩ := h
    refine ⟨vs, f.sq, ?_⟩
    have : xs[k]? = none := Option.some.inj e
    rw [← vv.length]
    exact List.getElem?_eq_none_iff.mp this
  | rng lo n =>
    cases h
    unfold Src.at at e
    dsimp only at e
    cases q : Nat.blt k n with
    | true => rw [q] at e; cases e
    | false =>
      show n ≤ k
      have : ¬ k < n := fun z => by
        have : Nat.blt k n = true := Nat.ble_eq_true_of_le z
        rw [q] at this; cases this
      omega
  | rdn lo n =>
    cases h
    unfold Src.at at e
    dsimp only at e
    cases q : Nat.blt k n with
    | true => rw [q] at e; cases e
    | false =>
      show n ≤ k
      have : ¬ k < n := fun z => by
        have : Nat.blt k n = true := Nat.ble_eq_true_of_le z
        rw [q] at this; cases this
      omega
  | enuL x =>
    obtain ⟨a, hv, rfl⟩ := h
    unfold Src.at at e
    dsimp only at e
    split at e
    · rename_i xs e1
      obtain ⟨a', vs, z, q, vv⟩ := sqlOf_ok rel hv e1
      cases z
      refine ⟨vs, q, ?_⟩
      split at e
      · cases e
      · rename_i z
        rw [← vv.length]
        exact List.getElem?_eq_none_iff.mp z
    · cases e
  | enuT xs =>
    obtain ⟨a, vs, f, vv, rfl⟩ := h
    refine ⟨vs, f.sq, ?_⟩
    unfold Src.at at e
    dsimp only at e
    split at e
    · cases e
    · rename_i z
      rw [← vv.length]
      exact List.getElem?_eq_none_iff.mp z
  | zipL x y =>
    obtain ⟨a, b, hv, hw, rfl⟩ := h
    unfold Src.at at e
    dsimp only at e
    split at e
    · rename_i xs e1
      split at e
      · rename_i ys e2
        obtain ⟨a', vs, z, q, vv⟩ := sqlOf_ok rel hv e1
        cases z
        obtain ⟨b', ws, z, q', vw⟩ := sqlOf_ok rel hw e2
        cases z
        refine ⟨vs, ws, q, q', ?_⟩
        split at e
        · split at e
          · cases e
          · rename_i z
            exact .inr (by rw [← vw.length]; exact List.getElem?_eq_none_iff.mp z)
        · rename_i z
          exact .inl (by rw [← vv.length]; exact List.getElem?_eq_none_iff.mp z)
      · cases e
    · cases e
  | zipT xs ys =>
    obtain ⟨a, b, vs, ws, f1, vv, f2, vw, rfl⟩ := h
    unfold Src.at at e
    dsimp only at e
    refine ⟨vs, ws, f1.sq, f2.sq, ?_⟩
    split at e
    · split at e
      · cases e
      · rename_i z
        exact .inr (by rw [← vw.length]; exact List.getElem?_eq_none_iff.mp z)
    · rename_i z
      exact .inl (by rw [← vv.length]; exact List.getElem?_eq_none_iff.mp z)
  | zipM xs y =>
    obtain ⟨a, b, vs, f1, vv, hw, rfl⟩ := h
    unfold Src.at at e
    dsimp only at e
    split at e
    · rename_i ys e2
      obtain ⟨b', ws, z, q', vw⟩ := sqlOf_ok rel hw e2
      cases z
      refine ⟨vs, ws, f1.sq, q', ?_⟩
      split at e
      · rename_i v1 h1
        split at e
        · cases e
        · rename_i z
          cases g : Nat.beq k ys.length with
          | false => rw [g] at e; cases e
          | true =>
            have g := Nat.eq_of_beq_eq_true g
            have l1 := (List.getElem?_eq_some_iff.mp h1).1
            have := vv.length
            have := vw.length
            omega
      · cases g : Nat.beq k xs.length && Nat.ble k ys.length with
        | false => rw [g] at e; cases e
        | true =>
          have g := Bool.and_eq_true_iff.mp g
          have g1 := Nat.eq_of_beq_eq_true g.1
          have g2 := Nat.le_of_ble_eq_true g.2
          have := vv.length
          have := vw.length
          omega
    · cases e
  | kys b ks =>
    obtain ⟨d, vs, f, n⟩ := h
    unfold Src.at at e
    dsimp only at e
    split at e
    · cases e
    · rename_i z
      have z' := List.getElem?_eq_none_iff.mp z
      cases f with
      | k l h => exact ⟨h, by rw [List.length_zip]; rw [List.length_map] at z'; omega⟩
      | t l h => exact ⟨h, by rw [List.length_zip]; omega⟩
  | its ks xs =>
    obtain ⟨d, vs, J', f, n, vv⟩ := h
    unfold Src.at at e
    dsimp only at e
    have lv := vv.length
    cases f with
    | k l h =>
      refine ⟨h, ?_⟩
      rw [List.length_zip]
      split at e
      · split at e
        · cases e
        · rename_i z
          have z' := List.getElem?_eq_none_iff.mp z
          omega
      · rename_i z
        have z' := List.getElem?_eq_none_iff.mp z
        rw [List.length_map] at z'
        omega
  | vls xs =>
    obtain ⟨d, ks, vs, J', f, n, vv⟩ := h
    have lv := vv.length
    have z' := List.getElem?_eq_none_iff.mp (show xs[k]? = none from Option.some.inj e)
    cases f with
    | k l h => exact ⟨h, by rw [List.length_zip]; omega⟩
theorem kA_rel {ρ : Rho} {H : Hp} {t : Bool} : ∀ k : Key, VRel G ρ H t (kA k) (kV k)
  | .inl _ => .int
  | .inr _ => .str
theorem kAs_rel {ρ : Rho} {H : Hp} {t : Bool} : ∀ ks : List Key, VRels G ρ H t (ks.map kA) (ks.map kV)
  | [] => .nil
  | k :: ks => .cons (kA_rel k) (kAs_rel ks)
/-- a tuple is no cell, nor private -/
theorem Rel.tup_off (r : Rel G ρ A H) {a : Addr} {xs : List V} (h : H a = some (.tup xs)) : ¬ ρ.on a := by
  rintro (⟨p, hp, z⟩ | z)
  · obtain ⟨i, hi, e⟩ := List.mem_iff_getElem.mp hp
    have hA : i < A.length := by rw [← r.len]; exact hi
    have q := r.cell i A[i] p (List.getElem?_eq_getElem hA) (by rw [List.getElem?_eq_getElem hi, e])
    cases hc : A[i] with
    | lst ys =>
      rw [hc] at q
      obtain ⟨e, vs, q, _⟩ := q
      have : a = p.1 := by exact z.elim id fun z => z.trans e
      rw [← this, h] at q; cases q
    | ins c fs =>
      rw [hc] at q
      obtain ⟨_, ⟨o, q2, nt, _⟩, vs, s, _⟩ := q
      rcases z with z | z
      · subst z
        cases s with
        | sl _ s => rcases s with ⟨s, _⟩ | ⟨s, _⟩ <;> (rw [h] at s; cases s)
        | pl _ s => rw [h] at s; cases s
      · subst z
        rw [h] at q2; cases q2
        exact nt _ rfl
    | dct b ks ys =>
      rw [hc] at q
      obtain ⟨e, vs, q, _⟩ := q
      have : a = p.1 := by exact z.elim id fun z => z.trans e
      subst this
      cases q with
      | k _ q => rw [h] at q; cases q
      | t _ q => rw [h] at q; cases q
    | tab i =>
      rw [hc] at q
      obtain ⟨e, _, ps, q, _⟩ := q
      have : a = p.1 := by exact z.elim id fun z => z.trans e
      rw [← this, h] at q; cases q
  · obtain ⟨_, o, q, nt⟩ := r.pv a z
    rw [h] at q; cases q
    exact nt _ rfl
theorem zip_at {α β : Type} : ∀ {as : List α} {bs : List β} {k : Nat} {p : α × β}, (as.zip bs)[k]? = some p → as[k]? = some p.1 ∧ bs[k]? = some p.2
  | [], _, _, _, h => by simp at h
  | _ :: _, [], _, _, h => by simp at h
  | a :: as, b :: bs, 0, p, h => by simp at h; subst h; exact ⟨rfl, rfl⟩
  | a :: as, b :: bs, k + 1, p, h => by simpa using zip_at (as := as) (bs := bs) (k := k) (p := p) (by simpa using h)
theorem src_step {s : Src} {k : Nat} {v : AV} (rel : Rel G ρ A H) (h : SrcRel G ρ H s J) (e : s.at A k = some (some v)) :
    J.go k H ∧ ∀ x H', J.yld k H x H' → Ext ρ H ρ H' ∧ Rel G ρ A H' ∧ VRel G ρ H' false v x := by
  cases s with
  | lst x =>
    obtain ⟨a, hv, rfl⟩ := h
    unfold Src.at at e
    dsimp only at e
    split at e
    · rename_i xs e1
      obtain ⟨a', vs, z, q, vv⟩ := sqlOf_ok rel hv e1
      cases z
      obtain ⟨u, hu, vu⟩ := vv.get (Option.some.inj e)
      refine ⟨⟨vs, u, q, hu⟩, fun y H' ⟨eq, hy⟩ => ?_⟩
      subst eq
      have := hy vs q
      rw [hu] at this; cases this
      exact ⟨Ext.refl _ _, rel, vu⟩
    · cases e
  | tup xs =>
    obtain ⟨a, vs, f, vv, rfl⟩ := h
    obtain ⟨u, hu, vu⟩ := vv.get (Option.some.inj e)
    refine ⟨⟨vs, u, f.sq, hu⟩, fun y H' ⟨eq, hy⟩ => ?_⟩
    subst eq
    have := hy vs f.sq
    rw [hu] at this; cases this
    exact ⟨Ext.refl _ _, rel, vu⟩
  | rng lo n =>
    cases h
    unfold Src.at at e
    dsimp only at e
    cases q : Nat.blt k n with
    | false => rw [q] at e; cases e
    | true =>
      rw [q] at e
      cases e
      refine ⟨Nat.le_of_ble_eq_true q, fun y H' ⟨eq, hy⟩ => ?_⟩
      subst eq hy
      exact ⟨Ext.refl _ _, rel, .int⟩
  | rdn lo n =>
    cases h
    unfold Src.at at e
    dsimp only at e
    cases q : Nat.blt k n with
    | false => rw [q] at e; cases e
    | true =>
      rw [q] at e
      cases e
      refine ⟨Nat.le_of_ble_eq_true q, fun y H' ⟨eq, hy⟩ => ?_⟩
      subst eq hy
      rw [show (lo + ((k : Nat) : Int) * (-1)) = lo - ((k : Nat) : Int) by omega]
      exact ⟨Ext.refl _ _, rel, .int⟩
  | enuL x =>
    obtain ⟨a, hv, rfl⟩ := h
    unfold Src.at at e
    dsimp only at e
    split at e
    · rename_i xs e1
      obtain ⟨a', vs, z, q, vv⟩ := sqlOf_ok rel hv e1
      cases z
      split at e
      · rename_i w hw
        cases e
        obtain ⟨u, hu, vu⟩ := vv.get hw
        refine ⟨⟨vs, u, q, hu⟩, fun y H' ⟨T, z, e2, hT, e3, hy⟩ => ?_⟩
        subst e2 e3
        have := hy vs q
        rw [hu] at this; cases this
        have ex := ext_new (ρ := ρ) hT (.tup [.int (k : Nat), u])
        exact ⟨ex, rel.new hT _, .mkT ⟨upd_same, rel.not_on hT⟩ (.cons .int (.cons (vu.mono ex) .nil))⟩
      · cases e
    · cases e
  | enuT xs =>
    obtain ⟨a, vs, f, vv, rfl⟩ := h
    unfold Src.at at e
    dsimp only at e
    split at e
    · rename_i w hw
      cases e
      obtain ⟨u, hu, vu⟩ := vv.get hw
      refine ⟨⟨vs, u, f.sq, hu⟩, fun y H' ⟨T, z, e2, hT, e3, hy⟩ => ?_⟩
      subst e2 e3
      have := hy vs f.sq
      rw [hu] at this; cases this
      have ex := ext_new (ρ := ρ) hT (.tup [.int (k : Nat), u])
      exact ⟨ex, rel.new hT _, .mkT ⟨upd_same, rel.not_on hT⟩ (.cons .int (.cons (vu.mono ex) .nil))⟩
    · cases e
  | zipL x y =>
    obtain ⟨a, b, hv, hw, rfl⟩ := h
    unfold Src.at at e
    dsimp only at e
    split at e
    · rename_i xs e1
      split at e
      · rename_i ys e2
        obtain ⟨a', vs, z, q, vv⟩ := sqlOf_ok rel hv e1
        cases z
        obtain ⟨b', ws, z, q', vw⟩ := sqlOf_ok rel hw e2
        cases z
        split at e
        · rename_i v1 h1
          split at e
          · rename_i v2 h2
            cases e
            obtain ⟨u, hu, vu⟩ := vv.get h1
            obtain ⟨u', hu', vu'⟩ := vw.get h2
            refine ⟨⟨vs, ws, u, u', q, q', hu, hu'⟩, fun y H' ⟨T, z, z', e2, hT, e3, hy, hy'⟩ => ?_⟩
            subst e2 e3
            have t1 := hy vs q
            rw [hu] at t1; cases t1
            have t2 := hy' ws q'
            rw [hu'] at t2; cases t2
            have ex := ext_new (ρ := ρ) hT (.tup [u, u'])
            exact ⟨ex, rel.new hT _, .mkT ⟨upd_same, rel.not_on hT⟩ (.cons (vu.mono ex) (.cons (vu'.mono ex) .nil))⟩
          · cases e
        · cases e
      · cases e
    · cases e
  | zipT xs ys =>
    obtain ⟨a, b, vs, ws, f1, vv, f2, vw, rfl⟩ := h
    unfold Src.at at e
    dsimp only at e
    split at e
    · rename_i v1 h1
      split at e
      · rename_i v2 h2
        cases e
        obtain ⟨u, hu, vu⟩ := vv.get h1
        obtain ⟨u', hu', vu'⟩ := vw.get h2
        refine ⟨⟨vs, ws, u, u', f1.sq, f2.sq, hu, hu'⟩, fun y H' ⟨T, z, z', e2, hT, e3, hy, hy'⟩ => ?_⟩
        subst e2 e3
        have t1 := hy vs f1.sq
        rw [hu] at t1; cases t1
        have t2 := hy' ws f2.sq
        rw [hu'] at t2; cases t2
        have ex := ext_new (ρ := ρ) hT (.tup [u, u'])
        exact ⟨ex, rel.new hT _, .mkT ⟨upd_same, rel.not_on hT⟩ (.cons (vu.mono ex) (.cons (vu'.mono ex) .nil))⟩
      · cases e
    · cases e
  | zipM xs y =>
    obtain ⟨a, b, vs, f1, vv, hw, rfl⟩ := h
    unfold Src.at at e
    dsimp only at e
    split at e
    · rename_i ys e2
      obtain ⟨b', ws, z, q', vw⟩ := sqlOf_ok rel hw e2
      cases z
      split at e
      · rename_i v1 h1
        split at e
        · rename_i v2 h2
          cases e
          obtain ⟨u, hu, vu⟩ := vv.get h1
          obtain ⟨u', hu', vu'⟩ := vw.get h2
          refine ⟨⟨vs, ws, u, u', f1.sq, q', hu, hu'⟩, fun y H' ⟨T, z, z', e2, hT, e3, hy, hy'⟩ => ?_⟩
          subst e2 e3
          have t1 := hy vs f1.sq
          rw [hu] at t1; cases t1
          have t2 := hy' ws q'
          rw [hu'] at t2; cases t2
          have ex := ext_new (ρ := ρ) hT (.tup [u, u'])
          exact ⟨ex, rel.new hT _, .mkT ⟨upd_same, rel.not_on hT⟩ (.cons (vu.mono ex) (.cons (vu'.mono ex) .nil))⟩
        · cases g : Nat.beq k ys.length with
          | false => rw [g] at e; cases e
          | true => rw [g] at e; cases e
      · cases g : Nat.beq k xs.length && Nat.ble k ys.length with
        | false => rw [g] at e; cases e
        | true => rw [g] at e; cases e
    · cases e
  | kys b ks =>
    obtain ⟨d, vs, f, n⟩ := h
    unfold Src.at at e
    dsimp only at e
    split at e
    · rename_i kk z
      cases e
      cases f with
      | @k o js _ l h =>
        obtain ⟨z', _⟩ := List.getElem?_eq_some_iff.mp z
        rw [List.length_map] at z'
        refine ⟨⟨h, by rw [List.length_zip]; omega⟩, fun y H' ⟨eq, k1, v1, h1, h2⟩ => ?_⟩
        subst eq
        obtain ⟨h3, _⟩ := zip_at h1
        rw [List.getElem?_map, h3] at z
        cases z
        subst h2
        exact ⟨Ext.refl _ _, rel, kA_rel _⟩
      | t l h =>
        obtain ⟨z', _⟩ := List.getElem?_eq_some_iff.mp z
        refine ⟨⟨h, by rw [List.length_zip]; omega⟩, fun y H' ⟨eq, k1, v1, q1, h1, h2, hq⟩ => ?_⟩
        subst eq
        obtain ⟨h3, _⟩ := zip_at h1
        rw [h3] at z
        cases z
        subst h2
        exact ⟨Ext.refl _ _, rel, .tup ⟨hq, rel.tup_off hq⟩ (kAs_rel _)⟩
    · cases e
  | its ks xs =>
    obtain ⟨d, vs, J', f, n, vv⟩ := h
    unfold Src.at at e
    dsimp only at e
    split at e
    · rename_i kk z
      split at e
      · rename_i w hw
        cases e
        obtain ⟨u, hu, vu⟩ := vv.get hw
        cases f with
        | @k o js _ l h =>
          obtain ⟨z', _⟩ := List.getElem?_eq_some_iff.mp z
          rw [List.length_map] at z'
          refine ⟨⟨h, by rw [List.length_zip]; omega⟩, fun y H' ⟨T, k1, v1, h1, h2, hT, h4⟩ => ?_⟩
          subst h4 h2
          obtain ⟨h3, h5⟩ := zip_at h1
          rw [List.getElem?_map, h3] at z
          cases z
          rw [hu] at h5
          have e5 : v1 = u := (Option.some.inj h5).symm
          subst e5
          have ex := ext_new (ρ := ρ) hT (.tup [kV k1, v1])
          exact ⟨ex, rel.new hT _, .mkT ⟨upd_same, rel.not_on hT⟩ (.cons (kA_rel _) (.cons (vu.mono ex) .nil))⟩
      · cases e
    · cases e
  | vls xs =>
    obtain ⟨d, ks, vs, J', f, n, vv⟩ := h
    obtain ⟨u, hu, vu⟩ := vv.get (show xs[k]? = some v from Option.some.inj e)
    cases f with
    | @k o js _ l h =>
      obtain ⟨z', _⟩ := List.getElem?_eq_some_iff.mp hu
      refine ⟨⟨h, by rw [List.length_zip]; omega⟩, fun y H' ⟨eq, k1, h1⟩ => ?_⟩
      subst eq
      obtain ⟨_, h5⟩ := zip_at h1
      rw [hu] at h5
      cases h5
      exact ⟨Ext.refl _ _, rel, vu⟩
end
def tI (G : Gl) (c : CI) : TI := fun σ H R => ∃ ρ A e, Rel G ρ A H ∧ ERel G ρ H e σ ∧ ∃ s A', c e A = .ok s A' ∧ ∀ ρ' H' J, Ext ρ H ρ' H' → Rel G ρ' A' H' → SrcRel G ρ' H' s J → R J H'
abbrev PIc (G : Gl) (X : Cx) (tg e : Expr) (c : CI) : Prop := PI X tg e (tI G c)
theorem _root_.L2.PI.imp {X : Cx} {tg e : Expr} {t u : TI} (h : PI X tg e t) (i : ∀ σ H Q, u σ H Q → t σ H Q) : PI X tg e u := ⟨fun pins s σ H Q I q => h.run pins s σ H Q I (i σ H Q q)⟩
theorem _root_.L2.PI.or {X : Cx} {tg e : Expr} {t u : TI} (h : PI X tg e t) (h' : PI X tg e u) : PI X tg e (fun σ H Q => t σ H Q ∨ u σ H Q) := ⟨fun pins s σ H Q I q => q.elim (h.run pins s σ H Q I) (h'.run pins s σ H Q I)⟩
theorem _root_.L2.PE.or {X : Cx} {e : Expr} {t u : TE} (h : PE X e t) (h' : PE X e u) : PE X e (fun σ H Q => t σ H Q ∨ u σ H Q) := ⟨fun pins s σ H Q I q => q.elim (h.run pins s σ H Q I) (h'.run pins s σ H Q I)⟩
def iSeq (c : CE) : CI := fun e A => match c e A with
  | .ok x A => (match tupOf x with
    | some xs => .ok (.tup xs) A
    | none => (match sqlOf A x with
      | some _ => .ok (.lst x) A
      | none => .bad))
  | .bad => .bad
def iRg (lo hi : CE) : CI := fun e A => match lo e A with
  | .ok x A => (match hi e A with
    | .ok y A => (match x with
      | .int i => (match y with
        | .int j => (match decide (-4611686018427387904 ≤ i) && decide (i < 4611686018427387904) && decide (-4611686018427387904 ≤ j) && decide (j < 4611686018427387904) with
          | true => .ok (.rng i (j - i).toNat) A
          | false => .bad)
        | _ => .bad)
      | _ => .bad)
    | .bad => .bad)
  | .bad => .bad
/-- the loop -/
def sFor (s : Src) (g : CG) (b : CS) : Nat → Nat → CS
  | 0, _ => sBad
  | n + 1, k => fun e A => match s.at A k with
    | some (some v) => (match g v e A with
      | .ok e A => (match b e A with
        | .nx e A => sFor s g b n (k + 1) e A
        | .bk e A => .nx e A
        | .rt v A => .rt v A
        | .bad => .bad)
      | .bad => .bad)
    | some none => .nx e A
    | none => .bad
def sForI (i : CI) (g : CG) (b : CS) (n : Nat) : CS := fun e A => match i e A with
  | .ok s A => sFor s g b n 0 e A
  | .bad => .bad
section
variable {G : Gl} {X : Cx} {a b iter tg : Expr} {ca cb : CE} {ci : CI} {s : CS} {sts : List Stmt} {g : CG} {pos p : Pos} {σ : L2.St} {H : Hp}
theorem psc_for {n : Nat} (hp : PassesOwn (model X.prog X.w) X.A X.env X.xe) (hc : X.calm = true) (hi : PIc G X tg iter ci) (hg : PGc G X tg g) (hb : PSsc G X sts s)
    (hs : ∀ x, foldedSetIterable iter X.env x = pure x := by intro _; rfl) : PSc G X (.For tg iter sts [] pos) (sForI ci g s n) := (ps_for hp hc hi hg hb hs).imp fun D σ H h => by
  obtain ⟨ρ, A, e, r, er, k⟩ := h
  unfold sForI at k
  cases h1 : ci e A with
  | bad => rw [h1] at k; exact k.elim
  | ok sr B =>
    rw [h1] at k
    dsimp only at k
    refine ⟨ρ, A, e, r, er, sr, B, h1, fun ρ1 H1 J ex r1 sj => ?_⟩
    refine ⟨fun i m σ H => ∃ ρ A e, Rel G ρ A H ∧ ERel G ρ H e σ ∧ SrcRel G ρ H sr J ∧ KS G ρ H D (sFor sr g s m i e A), ⟨n, ρ1, B, e, r1, er.mono ex, sj, KS.at k ex r1⟩, ?_⟩
    rintro i m σ2 H2 ⟨ρ2, A2, e2, r2, er2, sj2, k2⟩
    cases m with
    | zero => exact k2.elim
    | succ m =>
      unfold sFor at k2
      cases ha : sr.at A2 i with
      | none => rw [ha] at k2; exact k2.elim
      | some ov =>
        rw [ha] at k2
        cases ov with
        | none => exact .inl ⟨src_stop r2 sj2 ha, k2 ρ2 H2 σ2 (Ext.refl _ _) r2 er2⟩
        | some v =>
          obtain ⟨go, st⟩ := src_step r2 sj2 ha
          refine .inr ⟨go, fun σ' H' => ∃ ρ A e, Rel G ρ A H' ∧ ERel G ρ H' e σ' ∧ SrcRel G ρ H' sr J ∧ KS G ρ H' D (sFor sr g s m (i + 1) e A), fun σ' H' h => ⟨m, Nat.lt_succ_self _, h⟩, fun x H3 y => ?_⟩
          obtain ⟨ex3, r3, vx⟩ := st x H3 y
          dsimp only at k2
          cases hg' : g v e2 A2 with
          | bad => rw [hg'] at k2; exact k2.elim
          | ok e4 A4 =>
            rw [hg'] at k2
            dsimp only at k2
            refine ⟨ρ2, A2, e2, v, r3, er2.mono ex3, vx, e4, A4, hg', fun ρ5 H5 σ5 ex5 r5 er5 => ⟨ρ5, A4, e4, r5, er5, ?_⟩⟩
            have exx := ex3.trans r3 ex5
            have k3 := KS.at k2 exx r5
            have sj5 := sj2.mono exx
            cases hs' : s e4 A4 with
            | nx e6 A6 => rw [hs'] at k3; exact fun ρ' H' σ' ex' r' er' => ⟨ρ', A6, e6, r', er', sj5.mono ex', KS.at k3 ex' r'⟩
            | bk e6 A6 => rw [hs'] at k3; exact k3
            | rt v6 A6 => rw [hs'] at k3; exact k3
            | bad => rw [hs'] at k3; exact k3
theorem pic_seq {fa fc : Nat → Addr} (h : PEc (gl X fa fc) X a ca) : PIc (gl X fa fc) X tg a (iSeq ca) := ((pi_list h).or (pi_tup h)).imp fun σ H R h => by
  obtain ⟨ρ, A, e, r, er, sr, A', hc, k⟩ := h
  unfold iSeq at hc
  cases h1 : ca e A with
  | bad => rw [h1] at hc; cases hc
  | ok x B =>
    rw [h1] at hc
    dsimp only at hc
    split at hc
    · rename_i xs ht
      cases hc
      refine .inr ⟨ρ, A, e, r, er, .nil, _, _, h1, fun ρ1 H1 xv ex r1 vx => ?_⟩
      obtain ⟨a, vs, rfl, f1, v1⟩ := tupOf_ok vx ht
      exact ⟨a, rfl, ⟨vs, f1.sq⟩, k ρ1 H1 _ ex r1 ⟨a, vs, f1, v1, rfl⟩⟩
    · split at hc
      · rename_i ys e1
        cases hc
        refine .inl ⟨ρ, A, e, r, er, .nil, x, _, h1, fun ρ1 H1 xv ex r1 vx => ?_⟩
        obtain ⟨a, vs, rfl, q, vv⟩ := sqlOf_ok r1 vx e1
        exact ⟨a, rfl, ⟨vs, q⟩, k ρ1 H1 _ ex r1 ⟨a, vx, rfl⟩⟩
      · cases hc
theorem iRg_ok {lo hi : CE} {R : It → Hp → Prop} (h : tI G (iRg lo hi) σ H R) : tE G lo σ H fun x H1 => tE G hi σ H1 fun y H2 => ∃ i j : Int, x = .int i ∧ y = .int j ∧ (-(2 ^ 62) ≤ i ∧ i < 2 ^ 62 ∧ -(2 ^ 62) ≤ j ∧ j < 2 ^ 62) ∧ R (Itr i (j - i).toNat) H2 := by
  obtain ⟨ρ, A, e, r, er, sr, A', hc, k⟩ := h
  unfold iRg at hc
  cases h1 : lo e A with
  | bad => rw [h1] at hc; cases hc
  | ok x B =>
    rw [h1] at hc
    dsimp only at hc
    cases h2 : hi e B with
    | bad => rw [h2] at hc; cases hc
    | ok y B2 =>
      rw [h2] at hc
      dsimp only at hc
      split at hc
      · split at hc
        · split at hc
          · rename_i hb
            cases hc
            simp only [Bool.and_eq_true, decide_eq_true_eq] at hb
            refine ⟨ρ, A, e, r, er, .nil, _, B, h1, fun ρ1 H1 xv ex r1 vx => ⟨ρ1, B, e, r1, er.mono ex, .nil, _, _, h2, fun ρ2 H2 yv ex2 r2 vy => ?_⟩⟩
            cases vx; cases vy
            exact ⟨_, _, rfl, rfl, ⟨hb.1.1.1, hb.1.1.2, hb.1.2, hb.2⟩, k ρ2 H2 _ (ex.trans r1 ex2) r2 rfl⟩
          · cases hc
        · cases hc
      · cases hc
def iRdn (lo hi : CE) : CI := fun e A => match lo e A with
  | .ok x A => (match hi e A with
    | .ok y A => (match x with
      | .int i => (match y with
        | .int j => (match decide (-4611686018427387904 ≤ i) && decide (i < 4611686018427387904) && decide (-4611686018427387904 ≤ j) && decide (j < 4611686018427387904) with
          | true => .ok (.rdn i (i - j).toNat) A
          | false => .bad)
        | _ => .bad)
      | _ => .bad)
    | .bad => .bad)
  | .bad => .bad
theorem pic_range1 (hg : L2.Gl X "range") (hm : X.mg "range" = none) (ha : PEc G X a ca) (hs : starEach [a] X.env = [(false, eval a X.env)] := by rfl) :
    PIc G X tg (.Call (.Name "range" p) [a] [] pos) (iRg (cC (.int 0)) ca) :=
  (pi_range1 hg hm (pa_cons ha pa_nil (by rw [hs]; rfl)) hs).imp fun σ H R h => by
    have h' := tE_const (iRg_ok h) (u := .int 0) fun _ _ => .int
    refine tEh.imp h' fun y H2 ⟨i, j, e1, e2, b, q⟩ => ?_
    cases e1
    exact ⟨j, by rw [e2], b.2.2.1, b.2.2.2, by simpa using q⟩
end
end Ev
namespace Ev
open PySem PySem.Spec PyProof.Rows L2
section
variable {G : Gl} {ρ : Rho} {H H' : Hp} {A : Hs}
/-- what is not the cells' nor private stays -/
theorem FzT.chg {a : Addr} {vs : List V} (h : FzT G.K ρ H a vs) (e : ∀ a, ¬ ρ.on a → H' a = H a) : FzT G.K ρ H' a vs := ⟨(e a h.2).trans h.1, h.2⟩
theorem FzL.chg {a : Addr} {vs : List V} (h : FzL G.K ρ H a vs) (e : ∀ a, ¬ ρ.on a → H' a = H a) : FzL G.K ρ H' a vs := by
  rcases h with ⟨h, n⟩ | h
  · rcases h with h | ⟨o, h⟩
    · exact .inl ⟨.inl ((e a n).trans h), n⟩
    · exact .inl ⟨.inr ⟨o, (e a n).trans h⟩, n⟩
  · exact .inr h
mutual
theorem VRel.chg (e : ∀ a, ¬ ρ.on a → H' a = H a) : ∀ {t : Bool} {x : AV} {v : V}, VRel G ρ H t x v → VRel G ρ H' t x v
  | _, _, _, .non => .non
  | _, _, _, .bl => .bl
  | _, _, _, .int => .int
  | _, _, _, .str => .str
  | _, _, _, .tup h t => .tup (h.chg e) (VRels.chg e t)
  | _, _, _, .lst h n t => .lst ((e _ n).trans h) n (VRels.chg e t)
  | _, _, _, .scr h t => .scr (h.chg e) (VRels.chg e t)
  | _, _, _, .obj s n1 n2 d t => .obj (slt_mono s (.inl (e _ n1).symm) fun o q => (e _ n2).trans q) n1 n2 (by obtain ⟨o, q, nd⟩ := d; exact ⟨o, (e _ n2).trans q, nd⟩) (FRels.chg e t)
  | _, _, _, .dct h n t => .dct (h.same fun o q => (e _ n).trans q) n (VRels.chg e t)
  | _, _, _, .ref h => .ref h
  | _, _, _, .mix h t => .mix (h.chg e) (VRels.chg e t)
  | _, _, _, .fn => .fn
  | _, _, _, .ty => .ty
  | _, _, _, .cls => .cls
theorem VRels.chg (e : ∀ a, ¬ ρ.on a → H' a = H a) : ∀ {t : Bool} {x : List AV} {v : List V}, VRels G ρ H t x v → VRels G ρ H' t x v
  | _, _, _, .nil => .nil
  | _, _, _, .cons h t => .cons (VRel.chg e h) (VRels.chg e t)
theorem FRels.chg (e : ∀ a, ¬ ρ.on a → H' a = H a) : ∀ {t : Bool} {x : List AV} {v : List (Option V)}, FRels G ρ H t x v → FRels G ρ H' t x v
  | _, _, _, .nil => .nil
  | _, _, _, .und t => .und (FRels.chg e t)
  | _, _, _, .undn t => .undn (FRels.chg e t)
  | _, _, _, .cons h t => .cons (VRel.chg e h) (FRels.chg e t)
end
theorem ERel.chg (x : ∀ a, ¬ ρ.on a → H' a = H a) : ∀ {e : En} {σ : L2.St}, ERel G ρ H e σ → ERel G ρ H' e σ
  | _, _, .nil => .nil
  | _, _, .und t => .und (ERel.chg x t)
  | _, _, .cons h t => .cons (h.chg x) (ERel.chg x t)
theorem SrcRel.chg {s : Src} {J : It} (h : SrcRel G ρ H s J) (e : ∀ a, ¬ ρ.on a → H' a = H a) : SrcRel G ρ H' s J := by
  cases s with
  | lst x => obtain ⟨a, h, j⟩ := h; exact ⟨a, h.chg e, j⟩
  | tup xs => obtain ⟨a, vs, f, h, j⟩ := h; exact ⟨a, vs, f.chg e, h.chg e, j⟩
  | rng lo n => exact h
  | rdn lo n => exact h
  | enuL x => obtain ⟨a, h, j⟩ := h; exact ⟨a, h.chg e, j⟩
  | enuT xs => obtain ⟨a, vs, f, h, j⟩ := h; exact ⟨a, vs, f.chg e, h.chg e, j⟩
  | zipL x y => obtain ⟨a, b, h1, h2, j⟩ := h; exact ⟨a, b, h1.chg e, h2.chg e, j⟩
  | zipT x y => obtain ⟨a, b, vs, ws, f1, h1, f2, h2, j⟩ := h; exact ⟨a, b, vs, ws, f1.chg e, h1.chg e, f2.chg e, h2.chg e, j⟩
  | zipM x y => obtain ⟨a, b, vs, f1, h1, h2, j⟩ := h; exact ⟨a, b, vs, f1.chg e, h1.chg e, h2.chg e, j⟩
  | kys b ks => obtain ⟨d, vs, f, n⟩ := h; exact ⟨d, vs, f.at fun _ _ q => (e _ n).trans q, n⟩
  | its ks xs => obtain ⟨d, vs, J', f, n, h⟩ := h; exact ⟨d, vs, J', f.at fun _ _ q => (e _ n).trans q, n, h.chg e⟩
  | vls xs => obtain ⟨d, ks, vs, J', f, n, h⟩ := h; exact ⟨d, ks, vs, J', f.at fun _ _ q => (e _ n).trans q, n, h.chg e⟩
/-- a private object changes -/
theorem upd_priv {D : Addr} (hD : D ∈ ρ.v) (o : HO) : ∀ a, ¬ ρ.on a → upd H D o a = H a := fun a n => upd_ne fun z => n (.inr (by rw [z]; exact hD))
theorem CRel.chg {c : Cell} {p : Addr × Addr} (h : CRel G ρ H c p) (e : ∀ a, ¬ ρ.on a → H' a = H a) (h1 : H' p.1 = H p.1) (h2 : H' p.2 = H p.2) : CRel G ρ H' c p := by
  cases c with
  | lst xs => obtain ⟨a, vs, b, d⟩ := h; exact ⟨a, vs, h1.trans b, d.chg e⟩
  | ins c fs =>
    obtain ⟨a, ⟨o, b, nt⟩, vs, d, f⟩ := h
    exact ⟨a, ⟨o, h2.trans b, nt⟩, vs, slt_mono d (.inl h1.symm) (fun o q => h2.trans q), f.chg e⟩
  | dct b ks xs => obtain ⟨a, vs, b, d⟩ := h; exact ⟨a, vs, b.mono fun o q => h1.trans q, d.chg e⟩
  | tab i =>
    obtain ⟨a, b, ps, d1, d2, d3⟩ := h
    exact ⟨a, b, ps, h1.trans d1, d2, fun pos cv hc => let ⟨c, e1, e2, e3⟩ := d3 pos cv hc; ⟨c, e1, (e c e3).trans e2, e3⟩⟩
theorem Rel.priv (r : Rel G ρ A H) {D : Addr} (hD : D ∈ ρ.v) (o : HO) (nt : NT o := by intro _ z; cases z) : Rel G ρ A (upd H D o) := by
  obtain ⟨nD, _⟩ := r.pv D hD
  refine ⟨r.len, r.pw, fun i c p hc hp => (r.cell i c p hc hp).chg (upd_priv hD o) (upd_ne fun z => nD (z ▸ (onC_of hp).1)) (upd_ne fun z => nD (z ▸ (onC_of hp).2)), fun a ha => ?_⟩
  obtain ⟨n, o', q, nt'⟩ := r.pv a ha
  refine ⟨n, ?_⟩
  by_cases z : a = D
  · exact ⟨o, by rw [z, upd_same], nt⟩
  · exact ⟨o', by rw [upd_ne z]; exact q, nt'⟩
/-- a private one more, one less -/
abbrev Rho.hide (ρ : Rho) (D : Addr) : Rho := ⟨ρ.c, D :: ρ.v⟩
mutual
theorem VRel.sub {ρ' : Rho} (hc : ∀ (i : Nat) (p : Addr × Addr), ρ.c[i]? = some p → ρ'.c[i]? = some p) (e : ∀ a o, H a = some o → ¬ ρ.on a → ¬ ρ'.on a) : ∀ {t : Bool} {x : AV} {v : V}, VRel G ρ H t x v → VRel G ρ' H t x v
  | _, _, _, .non => .non
  | _, _, _, .bl => .bl
  | _, _, _, .int => .int
  | _, _, _, .str => .str
  | _, _, _, .tup h t => .tup ⟨h.1, e _ _ h.1 h.2⟩ (VRels.sub hc e t)
  | _, _, _, .lst h n t => .lst h (e _ _ h n) (VRels.sub hc e t)
  | _, _, _, .scr h t => .scr (by
      rcases h with ⟨h, n⟩ | h
      · refine .inl ⟨h, ?_⟩
        rcases h with h | ⟨o, h⟩
        · exact e _ _ h n
        · exact e _ _ h n
      · exact .inr h) (VRels.sub hc e t)
  | _, _, _, .obj s n1 n2 d t => by
    obtain ⟨o, q⟩ := slt_some s
    obtain ⟨o', q', nd⟩ := d
    exact .obj s (e _ _ q n1) (e _ _ q' n2) ⟨o', q', nd⟩ (FRels.sub hc e t)
  | _, _, _, .dct h n t => by
    obtain ⟨o, q⟩ := h.full
    exact .dct h (e _ _ q n) (VRels.sub hc e t)
  | _, _, _, .ref h => .ref (hc _ _ h)
  | _, _, _, .mix h t => .mix ⟨h.1, e _ _ h.1 h.2⟩ (VRels.sub hc e t)
  | _, _, _, .fn => .fn
  | _, _, _, .ty => .ty
  | _, _, _, .cls => .cls
theorem VRels.sub {ρ' : Rho} (hc : ∀ (i : Nat) (p : Addr × Addr), ρ.c[i]? = some p → ρ'.c[i]? = some p) (e : ∀ a o, H a = some o → ¬ ρ.on a → ¬ ρ'.on a) : ∀ {t : Bool} {x : List AV} {v : List V}, VRels G ρ H t x v → VRels G ρ' H t x v
  | _, _, _, .nil => .nil
  | _, _, _, .cons h t => .cons (VRel.sub hc e h) (VRels.sub hc e t)
theorem FRels.sub {ρ' : Rho} (hc : ∀ (i : Nat) (p : Addr × Addr), ρ.c[i]? = some p → ρ'.c[i]? = some p) (e : ∀ a o, H a = some o → ¬ ρ.on a → ¬ ρ'.on a) : ∀ {t : Bool} {x : List AV} {v : List (Option V)}, FRels G ρ H t x v → FRels G ρ' H t x v
  | _, _, _, .nil => .nil
  | _, _, _, .und t => .und (FRels.sub hc e t)
  | _, _, _, .undn t => .undn (FRels.sub hc e t)
  | _, _, _, .cons h t => .cons (VRel.sub hc e h) (FRels.sub hc e t)
end
theorem ERel.sub {ρ' : Rho} (hc : ∀ (i : Nat) (p : Addr × Addr), ρ.c[i]? = some p → ρ'.c[i]? = some p) (x : ∀ a o, H a = some o → ¬ ρ.on a → ¬ ρ'.on a) : ∀ {e : En} {σ : L2.St}, ERel G ρ H e σ → ERel G ρ' H e σ
  | _, _, .nil => .nil
  | _, _, .und t => .und (ERel.sub hc x t)
  | _, _, .cons h t => .cons (h.sub hc x) (ERel.sub hc x t)
theorem FzT.sub {ρ' : Rho} {a : Addr} {vs : List V} (h : FzT G.K ρ H a vs) (e : ∀ a o, H a = some o → ¬ ρ.on a → ¬ ρ'.on a) : FzT G.K ρ' H a vs := ⟨h.1, e _ _ h.1 h.2⟩
theorem SrcRel.sub {ρ' : Rho} {s : Src} {J : It} (h : SrcRel G ρ H s J) (hc : ∀ (i : Nat) (p : Addr × Addr), ρ.c[i]? = some p → ρ'.c[i]? = some p) (e : ∀ a o, H a = some o → ¬ ρ.on a → ¬ ρ'.on a) : SrcRel G ρ' H s J := by
  cases s with
  | lst x => obtain ⟨a, h, j⟩ := h; exact ⟨a, h.sub hc e, j⟩
  | tup xs => obtain ⟨a, vs, f, h, j⟩ := h; exact ⟨a, vs, f.sub e, h.sub hc e, j⟩
  | rng lo n => exact h
  | rdn lo n => exact h
  | enuL x => obtain ⟨a, h, j⟩ := h; exact ⟨a, h.sub hc e, j⟩
  | enuT xs => obtain ⟨a, vs, f, h, j⟩ := h; exact ⟨a, vs, f.sub e, h.sub hc e, j⟩
  | zipL x y => obtain ⟨a, b, h1, h2, j⟩ := h; exact ⟨a, b, h1.sub hc e, h2.sub hc e, j⟩
  | zipT x y => obtain ⟨a, b, vs, ws, f1, h1, f2, h2, j⟩ := h; exact ⟨a, b, vs, ws, f1.sub e, h1.sub hc e, f2.sub e, h2.sub hc e, j⟩
  | zipM x y => obtain ⟨a, b, vs, f1, h1, h2, j⟩ := h; exact ⟨a, b, vs, f1.sub e, h1.sub hc e, h2.sub hc e, j⟩
  | kys b ks => obtain ⟨d, vs, f, n⟩ := h; obtain ⟨o, u, q⟩ := f.some; exact ⟨d, vs, f, e _ _ q n⟩
  | its ks xs => obtain ⟨d, vs, J', f, n, h⟩ := h; obtain ⟨o, u, q⟩ := f.some; exact ⟨d, vs, J', f, e _ _ q n, h.sub hc e⟩
  | vls xs => obtain ⟨d, ks, vs, J', f, n, h⟩ := h; obtain ⟨o, u, q⟩ := f.some; exact ⟨d, ks, vs, J', f, e _ _ q n, h.sub hc e⟩
theorem CRel.sub {ρ' : Rho} {c : Cell} {p : Addr × Addr} (h : CRel G ρ H c p) (hc : ∀ (i : Nat) (p : Addr × Addr), ρ.c[i]? = some p → ρ'.c[i]? = some p) (e : ∀ a o, H a = some o → ¬ ρ.on a → ¬ ρ'.on a) : CRel G ρ' H c p := by
  cases c with
  | lst xs => obtain ⟨a, vs, b, d⟩ := h; exact ⟨a, vs, b, d.sub hc e⟩
  | ins c fs => obtain ⟨a, b, vs, d, f⟩ := h; exact ⟨a, b, vs, d, f.sub hc e⟩
  | dct b ks xs => obtain ⟨a, vs, b, d⟩ := h; exact ⟨a, vs, b, d.sub hc e⟩
  | tab i =>
    obtain ⟨a, b, ps, d1, d2, d3⟩ := h
    exact ⟨a, b, ps, d1, d2, fun pos cv hcv => let ⟨c, e1, e2, e3⟩ := d3 pos cv hcv; ⟨c, e1, e2, e c _ e2 e3⟩⟩
theorem onC_eq {ρ ρ' : Rho} (hc : ρ'.c = ρ.c) {a : Addr} : ρ'.onC a ↔ ρ.onC a := by unfold Rho.onC; rw [hc]
theorem same_c {l : List (Addr × Addr)} : ∀ (i : Nat) (p : Addr × Addr), l[i]? = some p → l[i]? = some p := fun _ _ h => h
/-- a new private object -/
theorem hide_on {D : Addr} (hD : H D = none) : ∀ a o, H a = some o → ¬ ρ.on a → ¬ (ρ.hide D).on a := fun a o q n => by
  rintro (z | z)
  · exact n (.inl ((onC_eq rfl).mp z))
  · rcases List.mem_cons.mp z with rfl | z
    · rw [hD] at q; cases q
    · exact n (.inr z)
theorem show_on {D : Addr} : ∀ a o, H a = some o → ¬ (ρ.hide D).on a → ¬ ρ.on a := fun a o _ n => by
  rintro (z | z)
  · exact n (.inl ((onC_eq rfl).mpr z))
  · exact n (.inr (List.mem_cons_of_mem _ z))
theorem Rel.hide (r : Rel G ρ A H) {D : Addr} (hD : H D = none) (o : HO) (nt : NT o := by intro _ z; cases z) : Rel G (ρ.hide D) A (upd H D o) := by
  have r1 := r.new hD o
  have hon : ∀ a u, upd H D o a = some u → ¬ ρ.on a → a ≠ D → ¬ (ρ.hide D).on a := fun a u q n z => by
    rintro (w | w)
    · exact n (.inl ((onC_eq rfl).mp w))
    · rcases List.mem_cons.mp w with y | y
      · exact z y
      · exact n (.inr y)
  refine ⟨r.len, r.pw, fun i c p hc hp => ?_, fun a ha => ?_⟩
  · have q := CRel.sub (ρ' := ρ.hide D) (r.cell i c p hc hp) same_c (hide_on hD)
    exact q.chg (upd_priv (ρ := ρ.hide D) List.mem_cons_self o) (upd_ne fun z => by
      obtain ⟨u, w⟩ := r.fullC (onC_of hp).1
      rw [z, hD] at w; cases w) (upd_ne fun z => by
      obtain ⟨u, w⟩ := r.fullC (onC_of hp).2
      rw [z, hD] at w; cases w)
  · rcases List.mem_cons.mp ha with rfl | ha
    · exact ⟨fun z => r.not_on hD (.inl ((onC_eq rfl).mp z)), o, upd_same, nt⟩
    · obtain ⟨n, u, q, nt'⟩ := r.pv a ha
      exact ⟨fun z => n ((onC_eq rfl).mp z), u, by rw [upd_ne (ne_of_none q hD)]; exact q, nt'⟩
theorem Rel.unhide {D : Addr} (r : Rel G (ρ.hide D) A H) : Rel G ρ A H :=
  ⟨r.len, r.pw, fun i c p hc hp => CRel.sub (ρ' := ρ) (r.cell i c p hc hp) same_c show_on, fun a ha => by
    obtain ⟨n, q⟩ := r.pv a (List.mem_cons_of_mem _ ha)
    exact ⟨fun z => n ((onC_eq rfl).mpr z), q⟩⟩
/-- what was private becomes a cell -/
theorem Rel.out {D : Addr} {xs : List AV} {vs : List V} (r : Rel G (ρ.hide D) A H) (nD : ¬ ρ.on D) (hD : H D = some (.lst vs)) (hv : VRels G (ρ.hide D) H false xs vs) : Rel G (ρ.push (D, D)) (A ++ [.lst xs]) H := by
  have hc : ∀ (i : Nat) (p : Addr × Addr), (ρ.hide D).c[i]? = some p → (ρ.push (D, D)).c[i]? = some p := fun i p h => by
    unfold Rho.push
    rw [List.getElem?_append_left (List.getElem?_eq_some_iff.mp h).1]
    exact h
  have ho : ∀ a o, H a = some o → ¬ (ρ.hide D).on a → ¬ (ρ.push (D, D)).on a := fun a o q n => by
    rintro (⟨p, hp, z⟩ | z)
    · rcases List.mem_append.mp hp with hp | hp
      · exact n (.inl ⟨p, hp, z⟩)
      · simp at hp; subst hp
        exact n (.inr (by rcases z with rfl | rfl <;> exact List.mem_cons_self))
    · exact n (.inr (List.mem_cons_of_mem _ z))
  have rl : ρ.c.length = A.length := r.len
  refine ⟨by simp [Rho.push, rl], ?_, fun i c p ha hr => ?_, fun a ha => ?_⟩
  · refine List.pairwise_append.mpr ⟨r.pw, List.pairwise_singleton _ _, fun p hp p' hp' => ?_⟩
    simp at hp'; subst hp'
    exact ⟨fun z => nD (.inl ⟨p, hp, .inl z.symm⟩), fun z => nD (.inl ⟨p, hp, .inl z.symm⟩), fun z => nD (.inl ⟨p, hp, .inr z.symm⟩), fun z => nD (.inl ⟨p, hp, .inr z.symm⟩)⟩
  · unfold Rho.push at hr
    dsimp only at hr
    by_cases hi : i < ρ.c.length
    · rw [List.getElem?_append_left hi] at hr
      rw [List.getElem?_append_left (by rw [← rl]; exact hi)] at ha
      exact CRel.sub (r.cell i c p ha hr) hc ho
    · rw [List.getElem?_append_right (by omega)] at hr
      rw [List.getElem?_append_right (by rw [← rl]; omega)] at ha
      have e0 : i - ρ.c.length = 0 := by
        have := (List.getElem?_eq_some_iff.mp hr).1
        simp at this; omega
      rw [e0] at hr
      rw [← rl, e0] at ha
      simp at hr ha
      subst hr ha
      exact ⟨rfl, vs, hD, hv.sub hc ho⟩
  · obtain ⟨n, q⟩ := r.pv a (List.mem_cons_of_mem _ ha)
    refine ⟨?_, q⟩
    rintro ⟨p, hp, z⟩
    rcases List.mem_append.mp hp with hp | hp
    · exact n ⟨p, hp, z⟩
    · simp at hp; subst hp
      exact nD (.inr (by rcases z with rfl | rfl <;> exact ha))
theorem Ext.unhide {ρ' : Rho} {D : Addr} (e : Ext (ρ.hide D) H ρ' H') : ∃ ρ2 : Rho, ρ' = ρ2.hide D ∧ Ext ρ H ρ2 H' := by
  obtain ⟨ν, e1, e2, e3⟩ := e.app
  refine ⟨⟨ρ'.c, ρ.v⟩, ?_, ⟨⟨ν, e1, rfl, e3⟩, fun a o q n => (e.keep a o q fun z => n ((onC_eq rfl).mp z)).imp id fun z => ⟨z.1, fun y => z.2.1 (List.mem_cons_of_mem _ y), z.2.2⟩⟩⟩
  cases ρ'
  simp only at e2
  subst e2
  rfl
end
def wipeE (e : En) : List Nat → En
  | [] => e
  | v :: vs => (wipeE e vs).set v .und
theorem ERel.setU {G : Gl} {ρ : Rho} {H : Hp} {o : Option V} : ∀ {e : En} {σ : L2.St} (i : Nat), ERel G ρ H e σ → ERel G ρ H (e.set i .und) (σ.set i o)
  | _, _, _, .nil => .nil
  | _, _, 0, .und t => .und t
  | _, _, 0, .cons _ t => .und t
  | _, _, i + 1, .und t => .und (ERel.setU i t)
  | _, _, i + 1, .cons h t => .cons h (ERel.setU i t)
theorem ERel.wipe {G : Gl} {ρ : Rho} {H : Hp} {e : En} {σ : L2.St} (h : ERel G ρ H e σ) : ∀ vs : List Nat, ERel G ρ H (wipeE e vs) (L2.wipe σ vs)
  | [] => h
  | v :: vs => (ERel.wipe h vs).setU v
theorem wipe_get (σ : L2.St) : ∀ (vs : List Nat) (j : Nat), (L2.wipe σ vs)[j]? = if j ∈ vs then (σ[j]?).map (fun _ => (none : Option V)) else σ[j]?
  | [], j => by simp [L2.wipe]
  | v :: vs, j => by
    unfold L2.wipe
    by_cases h : v = j
    · subst h
      rw [List.getElem?_set_self', wipe_get σ vs v]
      simp only [List.mem_cons, true_or, if_true]
      by_cases h2 : v ∈ vs
      · rw [if_pos h2]
        cases σ[v]? <;> rfl
      · rw [if_neg h2]
        cases σ[v]? <;> rfl
    · rw [List.getElem?_set_ne h, wipe_get σ vs j]
      have : j ≠ v := fun z => h z.symm
      by_cases h2 : j ∈ vs
      · rw [if_pos h2, if_pos (List.mem_cons_of_mem _ h2)]
      · rw [if_neg h2, if_neg (by simp [this, h2])]
theorem wipe_set {σ : L2.St} {vs : List Nat} {i : Nat} (o : Option V) (h : i ∈ vs) : L2.wipe (σ.set i o) vs = L2.wipe σ vs := by
  apply List.ext_getElem?
  intro j
  rw [wipe_get, wipe_get]
  by_cases hj : j ∈ vs
  · rw [if_pos hj, if_pos hj]
    by_cases z : i = j
    · subst z
      rw [List.getElem?_set_self']
      cases σ[i]? <;> rfl
    · rw [List.getElem?_set_ne z]
  · rw [if_neg hj, if_neg hj, List.getElem?_set_ne (show i ≠ j from fun z => hj (by rw [← z]; exact h))]
theorem wipe_wipe (σ : L2.St) (vs : List Nat) : L2.wipe (L2.wipe σ vs) vs = L2.wipe σ vs := by
  apply List.ext_getElem?
  intro j
  rw [wipe_get, wipe_get]
  by_cases hj : j ∈ vs
  · rw [if_pos hj, if_pos hj]
    cases σ[j]? <;> rfl
  · rw [if_neg hj, if_neg hj]
/-- a block's target -/
def TgOk (G : Gl) (vs : List Nat) (g : TG) (cg : CG) : Prop := ∀ (ρ : Rho) (A : Hs) (H : Hp) (e : En) (σ : L2.St) (u : AV) (x : V) (e' : En) (A' : Hs), ERel G ρ H e σ → VRel G ρ H false u x → cg u e A = .ok e' A' →
  ∀ Q : L2.St → Hp → Prop, (A' = A → ∀ σ2, ERel G ρ H e' σ2 → L2.wipe σ2 vs = L2.wipe σ vs → Q σ2 H) → g x σ H Q
theorem tg_name {G : Gl} {vs : List Nat} {i : Nat} (h : i ∈ vs) : TgOk G vs (gName i) (gN i) := by
  intro ρ A H e σ u x e' A' er vu hg Q k
  cases hg
  exact k rfl _ (er.set vu i) (wipe_set _ h)
def TgsOk (G : Gl) (vs : List Nat) (g : TGs) (cg : List AV → En → Hs → RG) : Prop := ∀ (ρ : Rho) (A : Hs) (H : Hp) (e : En) (σ : L2.St) (u : List AV) (x : List V) (e' : En) (A' : Hs), ERel G ρ H e σ → VRels G ρ H false u x → cg u e A = .ok e' A' →
  ∀ Q : L2.St → Hp → Prop, (A' = A → ∀ σ2, ERel G ρ H e' σ2 → L2.wipe σ2 vs = L2.wipe σ vs → Q σ2 H) → g x σ H Q
/-- the turns of a comprehension; acc: backwards -/
def lcGo (s : Src) (g : CG) (ct te : CE) (e0 : En) : Nat → Nat → List AV → Hs → RA
  | 0, _, _, _ => .bad
  | n + 1, k, acc, A => match s.at A k with
    | some (some v) => (match g v e0 A with
      | .ok e A => (match ct e A with
        | .ok (.bl b) A => pick b (match te e A with
          | .ok y A => lcGo s g ct te e0 n (k + 1) (y :: acc) A
          | .bad => .bad) (lcGo s g ct te e0 n (k + 1) acc A)
        | _ => .bad)
      | .bad => .bad)
    | some none => .ok acc.reverse A
    | none => .bad
def cLCk (k : List AV → Hs → R) (ci : CI) (g : CG) (ct te : CE) (vs : List Nat) : CE := fun e A => match ci e A with
  | .ok s A => (lcGo s g ct te (wipeE e vs) 100000 0 [] A).bind k
  | .bad => .bad
abbrev cLC := cLCk kLst
abbrev cLCM := cLCk kLstM
abbrev PTsc (G : Gl) (X : Cx) (ifs : List Expr) (c : CE) : Prop := PTs X ifs (tT G c)
section
variable {G : Gl} {X : Cx} {elt tg iter c : Expr} {ifs : List Expr} {ct te cc : CE} {ci : CI} {cg : CG} {g : TG} {vs : List Nat} {σ : L2.St} {H : Hp} {Q : VK}
theorem _root_.L2.PTs.imp {X : Cx} {e : List Expr} {t u : TT} (h : PTs X e t) (i : ∀ σ H Q, u σ H Q → t σ H Q) : PTs X e u := ⟨fun pins s σ H Q I q => h.run pins s σ H Q I (i σ H Q q)⟩
theorem ptsc_nil : PTsc G X [] (cC (.bl true)) := pts_nil.imp fun σ H Q h => by
  obtain ⟨b, e, q⟩ := tE_const h (u := .bl true) fun _ _ => .bl
  cases e
  exact q
theorem ptsc_one (h : PTc G X c cc) : PTsc G X [c] cc := pts_one h
theorem lc_core {k : List AV → Hs → R} (hk : ∀ xs A v A', k xs A = .ok v A' → (v = .lst xs ∧ A' = A ∧ allF xs = true) ∨ (v = .ref A.length ∧ A' = A ++ [.lst xs])) (hg : TgOk G vs g cg) (h : tE G (cLCk k ci cg ct te vs) σ H Q) : tLc (tI G ci) g (tT G ct) (tE G te) vs σ H Q := by
  obtain ⟨ρ, A, e, r, er, vr, w, A', hc, q⟩ := h
  unfold cLCk at hc
  cases h1 : ci e A with
  | bad => rw [h1] at hc; cases hc
  | ok s B =>
    rw [h1] at hc
    dsimp only at hc
    obtain ⟨out, B2, h2, h3⟩ := RA.bind_ok hc
    refine ⟨ρ, A, e, r, er, s, B, h1, fun ρ1 H1 J ex1 r1 sj D hD => ?_⟩
    have sz : 100000 < sizeLine := by rw [sizeLine_eq]; decide
    refine ⟨fun i m H2 => ∃ (ρ2 : Rho) (A2 : Hs) (acc : List AV) (accV : List V), Rel G (ρ2.hide D) A2 H2 ∧ Ext ρ1 H1 ρ2 H2 ∧ ERel G (ρ2.hide D) H2 (wipeE e vs) (L2.wipe σ vs) ∧ SrcRel G (ρ2.hide D) H2 s J ∧ H2 D = some (.lst accV) ∧ VRels G (ρ2.hide D) H2 false acc.reverse accV ∧
      acc.length + m ≤ 100000 ∧ lcGo s cg ct te (wipeE e vs) m i acc A2 = .ok out B2, ⟨100000, ρ1, B, [], [], ?_⟩, ?_⟩
    · have u := upd_priv (H := H1) (ρ := ρ1.hide D) List.mem_cons_self (.lst [])
      exact ⟨r1.hide hD _, ext_new hD _, (ERel.sub (ρ := ρ1) (ρ' := ρ1.hide D) same_c (hide_on hD) ((er.mono ex1).wipe vs)).chg u, (sj.sub (ρ' := ρ1.hide D) same_c (hide_on hD)).chg u, upd_same, .nil, Nat.le_refl _, h2⟩
    · rintro i m H2 ⟨ρ2, A2, acc, accV, r2, ex2, er2, sj2, hDl, va, hm, hgo⟩
      cases m with
      | zero => cases hgo
      | succ m =>
        unfold lcGo at hgo
        cases ha : s.at A2 i with
        | none => rw [ha] at hgo; cases hgo
        | some ov =>
          rw [ha] at hgo
          cases ov with
          | none =>
            cases hgo
            refine .inl ⟨src_stop r2 sj2 ha, ?_⟩
            have nD : ¬ ρ2.on D := by
              rintro (z | z)
              · exact (r2.pv D List.mem_cons_self).1 ((onC_eq rfl).mpr z)
              · obtain ⟨ν, _, e2, _⟩ := ex2.app
                rw [e2] at z
                obtain ⟨_, o, w, _⟩ := r1.pv D z
                rw [hD] at w; cases w
            rcases hk _ _ _ _ h3 with ⟨rfl, rfl, hF⟩ | ⟨rfl, rfl⟩
            · exact q ρ2 H2 _ (ex1.trans r1 ex2) r2.unhide (.lst hDl nD (VRels.sub (ρ := ρ2.hide D) (ρ' := ρ2) same_c show_on (va.fz hF)))
            · have exP : Ext ρ1 H1 (ρ2.push (D, D)) H2 := by
                obtain ⟨ν, e1, e2, e3⟩ := ex2.app
                refine ⟨⟨ν ++ [(D, D)], by simp [Rho.push, e1], e2, fun p hp => ?_⟩, ex2.keep⟩
                rcases List.mem_append.mp hp with hp | hp
                · exact e3 p hp
                · simp at hp; subst hp; exact ⟨hD, hD⟩
              have rP := Rel.out r2 nD hDl va
              exact q _ H2 _ (ex1.trans r1 exP) rP (.ref (p := (D, D)) (push_at r2.unhide _))
          | some v =>
            obtain ⟨go, st⟩ := src_step r2 sj2 ha
            refine .inr ⟨go, fun H' => ∃ (ρ2 : Rho) (A2 : Hs) (acc : List AV) (accV : List V), Rel G (ρ2.hide D) A2 H' ∧ Ext ρ1 H1 ρ2 H' ∧ ERel G (ρ2.hide D) H' (wipeE e vs) (L2.wipe σ vs) ∧ SrcRel G (ρ2.hide D) H' s J ∧ H' D = some (.lst accV) ∧ VRels G (ρ2.hide D) H' false acc.reverse accV ∧
              acc.length + m ≤ 100000 ∧ lcGo s cg ct te (wipeE e vs) m (i + 1) acc A2 = .ok out B2, fun H' h => ⟨m, Nat.lt_succ_self _, h⟩, fun x H3 y => ?_⟩
            obtain ⟨ex3, r3, vx⟩ := st x H3 y
            dsimp only at hgo
            cases hg' : cg v (wipeE e vs) A2 with
            | bad => rw [hg'] at hgo; cases hgo
            | ok e4 A4 =>
              rw [hg'] at hgo
              dsimp only at hgo
              refine hg (ρ2.hide D) A2 H3 (wipeE e vs) (L2.wipe σ vs) v x e4 A4 (er2.mono ex3) vx hg' _ fun z σ4 er4 w4 => ⟨w4.trans (wipe_wipe _ _), ?_⟩
              subst z
              cases ht : ct e4 A4 with
              | bad => rw [ht] at hgo; cases hgo
              | ok bv A5 =>
                rw [ht] at hgo
                refine ⟨ρ2.hide D, A4, e4, r3, er4, .nil, bv, A5, ht, fun ρ5 H5 x5 ex5 r5 v5 => ?_⟩
                obtain ⟨ρ6, rfl, exu⟩ := ex5.unhide
                have exA : Ext (ρ2.hide D) H2 (ρ6.hide D) H5 := ex3.trans r3 ex5
                have exB : Ext ρ1 H1 ρ6 H5 := by
                  obtain ⟨ρ7, e7, exv⟩ := exA.unhide
                  have : ρ7 = ρ6 := by
                    cases ρ7; cases ρ6
                    simp only [Rho.hide, Rho.mk.injEq, List.cons.injEq, true_and] at e7
                    rw [e7.1, e7.2]
                  rw [this] at exv
                  exact ex2.trans r2.unhide exv
                have hD5 : H5 D = some (.lst accV) := exA.pv hDl (r2.pv D List.mem_cons_self).1 List.mem_cons_self
                cases v5 with
                | @bl _ b =>
                  dsimp only at hgo
                  refine ⟨b, rfl, ?_⟩
                  cases b with
                  | false => exact ⟨ρ6, A5, acc, accV, r5, exB, er2.mono exA, sj2.mono exA, hD5, va.mono exA, by omega, hgo⟩
                  | true =>
                    rw [if_pos rfl]
                    dsimp only [pick] at hgo
                    cases hte : te e4 A5 with
                    | bad => rw [hte] at hgo; cases hgo
                    | ok y5 A6 =>
                      rw [hte] at hgo
                      refine ⟨ρ6.hide D, A5, e4, r5, er4.mono ex5, .nil, y5, A6, hte, fun ρ8 H8 x8 ex8 r8 v8 => ?_⟩
                      obtain ⟨ρ9, rfl, exu9⟩ := ex8.unhide
                      have hD8 : H8 D = some (.lst accV) := ex8.pv hD5 (r5.pv D List.mem_cons_self).1 List.mem_cons_self
                      have exC : Ext (ρ2.hide D) H2 (ρ9.hide D) H8 := exA.trans r5 ex8
                      have va8 : VRels G (ρ9.hide D) H8 false acc.reverse accV := va.mono exC
                      have ln : acc.length = accV.length := by
                        have := va8.length
                        simpa using this
                      have u := upd_priv (H := H8) (ρ := ρ9.hide D) List.mem_cons_self (.lst (accV ++ [x8]))
                      refine ⟨accV, hD8, by omega, ρ9, A6, y5 :: acc, accV ++ [x8], r8.priv List.mem_cons_self _, ?_, (er2.mono exC).chg u, (sj2.mono exC).chg u, upd_same, ?_, by simp only [List.length_cons]; omega, hgo⟩
                      · have e8 := exB.trans r5.unhide exu9
                        exact ⟨e8.app, fun a o qa na => by rw [upd_ne (ne_of_none qa hD)]; exact e8.keep a o qa na⟩
                      · rw [List.reverse_cons]
                        exact (va8.append (.cons v8 .nil)).chg u
                | _ => cases hgo
end
end Ev
namespace Ev
open PySem PySem.Spec PyProof.Rows L2
theorem kLst_k : ∀ (xs : List AV) (A : Hs) (v : AV) (A' : Hs), kLst xs A = .ok v A' → (v = .lst xs ∧ A' = A ∧ allF xs = true) ∨ (v = .ref A.length ∧ A' = A ++ [.lst xs]) := fun xs A v A' h => by obtain ⟨hF, h⟩ := guard_ok h; cases h; exact .inl ⟨rfl, rfl, hF⟩
theorem kLstM_k : ∀ (xs : List AV) (A : Hs) (v : AV) (A' : Hs), kLstM xs A = .ok v A' → (v = .lst xs ∧ A' = A ∧ allF xs = true) ∨ (v = .ref A.length ∧ A' = A ++ [.lst xs]) := fun xs A v A' h => by cases h; exact .inr ⟨rfl, rfl⟩
section
variable {G : Gl} {X : Cx} {elt tg iter : Expr} {ifs : List Expr} {ct te : CE} {ci : CI} {cg : CG} {g : TG} {scope : Scope} {own : List (Str × Nat)} {pos spos py : Pos} {k : List AV → Hs → R}
theorem pec_lc (hk : ∀ xs A v A', k xs A = .ok v A' → (v = .lst xs ∧ A' = A ∧ allF xs = true) ∨ (v = .ref A.length ∧ A' = A ++ [.lst xs])) (hc : X.calm = true) (hN : X.N.Nodup) (hi : PIc G X tg iter ci) (ok : BlkOk X.N X.env.scope scope own) (tk : TgOk G (own.map (·.2)) g cg)
    (hg : ∀ (s : Shared) (H : Hp) (C : Addr) (cl : List (Str × Addr)) (fp : List Addr), PG (X.blk s H scope (compEnvC scope cl C X.env) fp) tg g) (ht : ∀ (s : Shared) (H : Hp) (C : Addr) (cl : List (Str × Addr)) (fp : List Addr), PTsc G (X.blk s H scope (compEnvC scope cl C X.env) fp) ifs ct)
    (he : ∀ (s : Shared) (H : Hp) (C : Addr) (cl : List (Str × Addr)) (fp : List Addr), PEc G (X.blk s H scope (compEnvC scope cl C X.env) fp) elt te) (hs : ∀ x, foldedSetIterable iter X.env x = pure x := by intro _; rfl) :
    PEc G X (.ListComp elt [⟨tg, iter, ifs, 0⟩] scope pos) (cLCk k ci cg ct te (own.map (·.2))) :=
  (pe_lc hc hN hi ok hg ht he hs).imp fun σ H Q h => lc_core hk tk h
theorem KS.asgN {i : Nat} {ca : CE} {ρ : Rho} {A : Hs} {e : En} {σ : L2.St} {H : Hp} {D : Ends} (r : Rel G ρ A H) (er : ERel G ρ H e σ) (q : KS G ρ H D (sAsg ca (gN i) e A)) : tE G ca σ H fun x H1 => gName i x σ H1 D.nx := by
  refine tEh.imp (KS.asg r er q) fun y H1 h => ?_
  obtain ⟨ρ1, A1, e1, u, r1, er1, vu, e', A', hg, k⟩ := h
  cases hg
  exact k ρ1 H1 _ (Ext.refl _ _) r1 (er1.set vu i)
end
/-- the inner turns; n: how many there are so far -/
def lcIn (s : Src) (g : CG) (ct te : CE) (e0 : En) : Nat → Nat → List AV → Nat → Hs → RA × Nat
  | 0, _, _, c, _ => (.bad, c)
  | n + 1, k, acc, c, A => match s.at A k with
    | some (some v) => (match g v e0 A with
      | .ok e A => (match ct e A with
        | .ok (.bl b) A => pick b (match te e A with
          | .ok y A => pick (Nat.blt c 16777216) (lcIn s g ct te e0 n (k + 1) (y :: acc) (c + 1) A) (.bad, c)
          | .bad => (.bad, c)) (lcIn s g ct te e0 n (k + 1) acc c A)
        | _ => (.bad, c))
      | .bad => (.bad, c))
    | some none => (.ok acc A, c)
    | none => (.bad, c)
def lcOut (s : Src) (g : CG) (ct : CE) (ci1 : CI) (g1 : CG) (ct1 te : CE) (e0 : En) (vs1 : List Nat) : Nat → Nat → List AV → Nat → Hs → RA
  | 0, _, _, _, _ => .bad
  | n + 1, k, acc, c, A => match s.at A k with
    | some (some v) => (match g v e0 A with
      | .ok e A => (match ct e A with
        | .ok (.bl b) A => pick b (match ci1 e A with
          | .ok s1 A => (match lcIn s1 g1 ct1 te (wipeE e vs1) 100000 0 acc c A with
            | (.ok acc A, c) => lcOut s g ct ci1 g1 ct1 te e0 vs1 n (k + 1) acc c A
            | (.bad, _) => .bad)
          | .bad => .bad) (lcOut s g ct ci1 g1 ct1 te e0 vs1 n (k + 1) acc c A)
        | _ => .bad)
      | .bad => .bad)
    | some none => .ok acc.reverse A
    | none => .bad
def cLC2k (k : List AV → Hs → R) (ci : CI) (g : CG) (ct : CE) (ci1 : CI) (g1 : CG) (ct1 te : CE) (vs vs1 : List Nat) : CE := fun e A => match ci e A with
  | .ok s A => (lcOut s g ct ci1 g1 ct1 te (wipeE e vs) vs1 100000 0 [] 0 A).bind k
  | .bad => .bad
section
variable {G : Gl} {X : Cx} {ct te ct1 : CE} {ci ci1 : CI} {cg cg1 : CG} {g g1 : TG} {vs vs1 : List Nat} {σ : L2.St} {H : Hp} {Q : VK}
/-- the state between two turns -/
structure LcSt (G : Gl) (ρ1 : Rho) (H1 : Hp) (D : Addr) (H2 : Hp) (ρ2 : Rho) (A2 : Hs) (acc : List AV) (c : Nat) : Prop where
  rel : Rel G (ρ2.hide D) A2 H2
  ext : Ext ρ1 H1 ρ2 H2
  len : acc.length = c
  at_ : ∃ accV, H2 D = some (.lst accV) ∧ VRels G (ρ2.hide D) H2 false acc.reverse accV
theorem LcSt.step {ρ1 ρ2 ρ5 : Rho} {H1 H2 H5 : Hp} {D : Addr} {A2 A5 : Hs} {acc : List AV} {c : Nat} (s : LcSt G ρ1 H1 D H2 ρ2 A2 acc c) (ex : Ext (ρ2.hide D) H2 ρ5 H5) (r : Rel G ρ5 A5 H5) : ∃ ρ6 : Rho, ρ5 = ρ6.hide D ∧ LcSt G ρ1 H1 D H5 ρ6 A5 acc c := by
  obtain ⟨ρ6, rfl, exu⟩ := ex.unhide
  obtain ⟨accV, hD, va⟩ := s.at_
  exact ⟨ρ6, rfl, r, s.ext.trans s.rel.unhide exu, s.len, accV, ex.pv hD (s.rel.pv D List.mem_cons_self).1 List.mem_cons_self, va.mono ex⟩
theorem LcSt.add {ρ1 ρ2 : Rho} {H1 H2 : Hp} {D : Addr} {A2 : Hs} {acc : List AV} {c : Nat} {y : AV} {x : V} (s : LcSt G ρ1 H1 D H2 ρ2 A2 acc c) (hD0 : H1 D = none) (vx : VRel G (ρ2.hide D) H2 false y x) : ∃ accV, H2 D = some (.lst accV) ∧ accV.length = c ∧ LcSt G ρ1 H1 D (upd H2 D (.lst (accV ++ [x]))) ρ2 A2 (y :: acc) (c + 1) := by
  obtain ⟨accV, hD, va⟩ := s.at_
  have u := upd_priv (H := H2) (ρ := ρ2.hide D) List.mem_cons_self (.lst (accV ++ [x]))
  refine ⟨accV, hD, ?_, s.rel.priv List.mem_cons_self _, ⟨s.ext.app, fun a o qa na => by rw [upd_ne (ne_of_none qa hD0)]; exact s.ext.keep a o qa na⟩, by simp [s.len], accV ++ [x], upd_same, ?_⟩
  · have := va.length
    rw [List.length_reverse, s.len] at this
    exact this.symm
  · rw [List.reverse_cons]
    exact (va.append (.cons vx .nil)).chg u
theorem lcIn_ok {ρ1 : Rho} {H1 : Hp} {D : Addr} (hD0 : H1 D = none) (hg1 : TgOk G vs1 g1 cg1) {s1 : Src} {J1 : It} {e4 : En} {σ2 : L2.St} {acc out : List AV} {c c2 : Nat} {A A' : Hs} {ρ2 : Rho} {H4 : Hp} {Nx : Hp → Prop}
    (st : LcSt G ρ1 H1 D H4 ρ2 A acc c) (er : ERel G (ρ2.hide D) H4 e4 σ2) (sj : SrcRel G (ρ2.hide D) H4 s1 J1) (hgo : lcIn s1 cg1 ct1 te (wipeE e4 vs1) 100000 0 acc c A = (.ok out A', c2))
    (hx : ∀ (ρ5 : Rho) (H5 : Hp), LcSt G ρ1 H1 D H5 ρ5 A' out c2 → Ext (ρ2.hide D) (fun a => if a = D then none else H4 a) (ρ5.hide D) (fun a => if a = D then none else H5 a) → Nx H5) :
    ∃ W1 : Nat → Nat → Hp → Prop, (∃ m, W1 0 m H4) ∧ ∀ j k H, W1 j k H →
      (J1.stop j H ∧ Nx H) ∨ (J1.go j H ∧ ∃ Nx1 : Hp → Prop, (∀ H', Nx1 H' → ∃ k', k' < k ∧ W1 (j + 1) k' H') ∧ ∀ x H', J1.yld j H x H' → g1 x (L2.wipe σ2 vs1) H' fun σ3 H5 => L2.wipe σ3 vs1 = L2.wipe σ2 vs1 ∧ tT G ct1 σ3 H5 fun b H6 =>
        if b = true then tE G te σ3 H6 fun y H7 => ∃ acc, H7 D = some (.lst acc) ∧ acc.length < sizeLine ∧ Nx1 (upd H7 D (.lst (acc ++ [y]))) else Nx1 H6) := by
  have base : ∀ {ρa ρb : Rho} {Ha Hb : Hp}, Ext (ρa.hide D) Ha (ρb.hide D) Hb → Ext (ρa.hide D) (fun a => if a = D then none else Ha a) (ρb.hide D) (fun a => if a = D then none else Hb a) := fun {ρa ρb Ha Hb} e => by
    obtain ⟨ν, e1, e2, e3⟩ := e.app
    refine ⟨⟨ν, e1, e2, fun p hp => ?_⟩, fun a o q n => ?_⟩
    · obtain ⟨q1, q2⟩ := e3 p hp
      exact ⟨by split <;> first | rfl | exact q1, by split <;> first | rfl | exact q2⟩
    · split at q
      · cases q
      · rename_i z
        refine (e.keep a o q n).imp (fun w => ?_) fun ⟨w1, w2, od, w3⟩ => ⟨w1, w2, od, ?_⟩ <;> (show (if a = D then none else Hb a) = _; rw [if_neg z]; assumption)
  have bupd : ∀ {ρa : Rho} {Ha : Hp} (o : HO), Ext (ρa.hide D) (fun a => if a = D then none else Ha a) (ρa.hide D) (fun a => if a = D then none else upd Ha D o a) := fun {ρa Ha} o => by
    have : (fun a => if a = D then none else upd Ha D o a) = (fun a => if a = D then (none : Option HO) else Ha a) := by
      funext a
      split
      · rfl
      · rename_i z
        rw [upd_ne z]
    rw [this]
    exact Ext.refl _ _
  have btr : ∀ {ρa ρb ρc : Rho} {Ha Hb Hc : Hp} {Ab : Hs}, Ext (ρa.hide D) (fun a => if a = D then none else Ha a) (ρb.hide D) (fun a => if a = D then none else Hb a) → Rel G (ρb.hide D) Ab Hb → Ext (ρb.hide D) (fun a => if a = D then none else Hb a) (ρc.hide D) (fun a => if a = D then none else Hc a) → Ext (ρa.hide D) (fun a => if a = D then none else Ha a) (ρc.hide D) (fun a => if a = D then none else Hc a) := fun {ρa ρb ρc Ha Hb Hc Ab} e1 r e2 => by
    obtain ⟨ν, a1, a2, a3⟩ := e1.app
    obtain ⟨μ, b1, b2, b3⟩ := e2.app
    have nD : ¬ (ρb.hide D).onC D := (r.pv D List.mem_cons_self).1
    have up : ∀ x, (if x = D then none else Hb x) = none → (if x = D then (none : Option HO) else Ha x) = none := fun x q => by
      by_cases z : x = D
      · rw [if_pos z]
      · rw [if_neg z] at q ⊢
        cases w : Ha x with
        | none => rfl
        | some o =>
          by_cases y : (ρa.hide D).onC x
          · obtain ⟨p, hp, t⟩ := y
            obtain ⟨o', h'⟩ := r.fullC (a := x) ⟨p, by rw [a1]; exact List.mem_append_left _ hp, t⟩
            rw [q] at h'; cases h'
          · rcases e1.keep x o (by rw [if_neg z]; exact w) y with this | ⟨_, _, _, this⟩ <;> (rw [if_neg z, q] at this; cases this)
    refine ⟨⟨ν ++ μ, by rw [b1, a1, List.append_assoc], by rw [b2, a2], fun p hp => ?_⟩, e1.keep2 e2⟩
    rcases List.mem_append.mp hp with hp | hp
    · exact a3 p hp
    · exact ⟨up _ (b3 p hp).1, up _ (b3 p hp).2⟩
  have inv : ∀ (ρa : Rho) (Ha : Hp), Ext (ρ2.hide D) (fun a => if a = D then none else H4 a) (ρa.hide D) (fun a => if a = D then none else Ha a) → ERel G (ρa.hide D) Ha e4 σ2 ∧ SrcRel G (ρa.hide D) Ha s1 J1 := fun ρa Ha e => by
    have c1 : ∀ a, ¬ (ρ2.hide D).on a → (fun a => if a = D then none else H4 a) a = H4 a := fun a n => if_neg fun z => n (.inr (by rw [z]; exact List.mem_cons_self))
    have c2 : ∀ a, ¬ (ρa.hide D).on a → Ha a = (fun a => if a = D then none else Ha a) a := fun a n => (if_neg fun z => n (.inr (by rw [z]; exact List.mem_cons_self))).symm
    exact ⟨((er.chg c1).mono e).chg c2, ((sj.chg c1).mono e).chg c2⟩
  refine ⟨fun j m H5 => ∃ (ρ5 : Rho) (A5 : Hs) (acc5 : List AV) (c5 : Nat), LcSt G ρ1 H1 D H5 ρ5 A5 acc5 c5 ∧ Ext (ρ2.hide D) (fun a => if a = D then none else H4 a) (ρ5.hide D) (fun a => if a = D then none else H5 a) ∧ lcIn s1 cg1 ct1 te (wipeE e4 vs1) m j acc5 c5 A5 = (.ok out A', c2),
    ⟨100000, ρ2, A, acc, c, st, Ext.refl _ _, hgo⟩, ?_⟩
  rintro j m H5 ⟨ρ5, A5, acc5, c5, st5, ex5, hgo5⟩
  obtain ⟨er5, sj5⟩ := inv ρ5 H5 ex5
  cases m with
  | zero => cases hgo5
  | succ m =>
    unfold lcIn at hgo5
    cases ha : s1.at A5 j with
    | none => rw [ha] at hgo5; cases hgo5
    | some ov =>
      rw [ha] at hgo5
      cases ov with
      | none =>
        cases hgo5
        exact .inl ⟨src_stop st5.rel sj5 ha, hx ρ5 H5 st5 ex5⟩
      | some v =>
        obtain ⟨go, stp⟩ := src_step st5.rel sj5 ha
        refine .inr ⟨go, fun H' => ∃ (ρ6 : Rho) (A6 : Hs) (acc6 : List AV) (c6 : Nat), LcSt G ρ1 H1 D H' ρ6 A6 acc6 c6 ∧ Ext (ρ2.hide D) (fun a => if a = D then none else H4 a) (ρ6.hide D) (fun a => if a = D then none else H' a) ∧ lcIn s1 cg1 ct1 te (wipeE e4 vs1) m (j + 1) acc6 c6 A6 = (.ok out A', c2), fun H' h => ⟨m, Nat.lt_succ_self _, h⟩, fun x H6 y => ?_⟩
        obtain ⟨ex6, r6, vx⟩ := stp x H6 y
        dsimp only at hgo5
        cases hg' : cg1 v (wipeE e4 vs1) A5 with
        | bad => rw [hg'] at hgo5; cases hgo5
        | ok e7 A7 =>
          rw [hg'] at hgo5
          dsimp only at hgo5
          refine hg1 (ρ5.hide D) A5 H6 (wipeE e4 vs1) (L2.wipe σ2 vs1) v x e7 A7 ((er5.mono ex6).wipe vs1) vx hg' _ fun z σ7 er7 w7 => ⟨w7.trans (wipe_wipe _ _), ?_⟩
          subst z
          cases ht : ct1 e7 A7 with
          | bad => rw [ht] at hgo5; cases hgo5
          | ok bv A8 =>
            rw [ht] at hgo5
            refine ⟨ρ5.hide D, A7, e7, r6, er7, .nil, bv, A8, ht, fun ρ8 H8 x8 ex8 r8 v8 => ?_⟩
            have exA := ex6.trans r6 ex8
            obtain ⟨ρ9, rfl, st9⟩ := st5.step exA r8
            cases v8 with
            | @bl _ b =>
              dsimp only at hgo5
              refine ⟨b, rfl, ?_⟩
              cases b with
              | false => exact ⟨ρ9, A8, acc5, c5, st9, btr ex5 st5.rel (base exA), hgo5⟩
              | true =>
                rw [if_pos rfl]
                dsimp only [pick] at hgo5
                cases hte : te e7 A8 with
                | bad => rw [hte] at hgo5; cases hgo5
                | ok y5 A10 =>
                  rw [hte] at hgo5
                  dsimp only at hgo5
                  refine ⟨ρ9.hide D, A8, e7, r8, er7.mono ex8, .nil, y5, A10, hte, fun ρ10 H10 x10 ex10 r10 v10 => ?_⟩
                  have exB := exA.trans r8 ex10
                  obtain ⟨ρ11, rfl, st11⟩ := st5.step exB r10
                  obtain ⟨accV, hD, hl, st12⟩ := st11.add hD0 v10
                  cases hb : Nat.blt c5 16777216 with
                  | false => rw [hb] at hgo5; cases hgo5
                  | true =>
                    rw [hb] at hgo5
                    have lt : c5 < 16777216 := Nat.le_of_ble_eq_true hb
                    exact ⟨accV, hD, by rw [hl, sizeLine_eq]; exact lt, ρ11, A10, y5 :: acc5, c5 + 1, st12, btr (btr ex5 st5.rel (base exB)) r10 (bupd _), hgo5⟩
            | _ => cases hgo5
end
end Ev
namespace Ev
open PySem PySem.Spec PyProof.Rows L2
section
variable {G : Gl} {X : Cx} {ct te ct1 : CE} {ci ci1 : CI} {cg cg1 : CG} {g g1 : TG} {vs vs1 : List Nat} {σ : L2.St} {H : Hp} {Q : VK}
theorem lc2_core {k : List AV → Hs → R} (hk : ∀ xs A v A', k xs A = .ok v A' → (v = .lst xs ∧ A' = A ∧ allF xs = true) ∨ (v = .ref A.length ∧ A' = A ++ [.lst xs])) (hg : TgOk G vs g cg) (hg1 : TgOk G vs1 g1 cg1) (h : tE G (cLC2k k ci cg ct ci1 cg1 ct1 te vs vs1) σ H Q) :
    tLc2 (tI G ci) g (tT G ct) (tI G ci1) g1 (tT G ct1) (tE G te) vs vs1 σ H Q := by
  obtain ⟨ρ, A, e, r, er, vr, w, A', hc, q⟩ := h
  unfold cLC2k at hc
  cases h1 : ci e A with
  | bad => rw [h1] at hc; cases hc
  | ok s B =>
    rw [h1] at hc
    dsimp only at hc
    obtain ⟨out, B2, h2, h3⟩ := RA.bind_ok hc
    refine ⟨ρ, A, e, r, er, s, B, h1, fun ρ1 H1 J ex1 r1 sj D hD => ?_⟩
    refine ⟨fun i m H2 => ∃ (ρ2 : Rho) (A2 : Hs) (acc : List AV) (c : Nat), LcSt G ρ1 H1 D H2 ρ2 A2 acc c ∧ ERel G (ρ2.hide D) H2 (wipeE e vs) (L2.wipe σ vs) ∧ SrcRel G (ρ2.hide D) H2 s J ∧ lcOut s cg ct ci1 cg1 ct1 te (wipeE e vs) vs1 m i acc c A2 = .ok out B2, ⟨100000, ρ1, B, [], 0, ?_⟩, ?_⟩
    · have u := upd_priv (H := H1) (ρ := ρ1.hide D) List.mem_cons_self (.lst [])
      exact ⟨⟨r1.hide hD _, ext_new hD _, rfl, [], upd_same, .nil⟩, (ERel.sub (ρ := ρ1) (ρ' := ρ1.hide D) same_c (hide_on hD) ((er.mono ex1).wipe vs)).chg u, (sj.sub (ρ' := ρ1.hide D) same_c (hide_on hD)).chg u, h2⟩
    · rintro i m H2 ⟨ρ2, A2, acc, c, st2, er2, sj2, hgo⟩
      cases m with
      | zero => cases hgo
      | succ m =>
        unfold lcOut at hgo
        cases ha : s.at A2 i with
        | none => rw [ha] at hgo; cases hgo
        | some ov =>
          rw [ha] at hgo
          cases ov with
          | none =>
            cases hgo
            have r2 := st2.rel
            have ex2 := st2.ext
            obtain ⟨accV, hDl, va⟩ := st2.at_
            refine .inl ⟨src_stop r2 sj2 ha, ?_⟩
            have nD : ¬ ρ2.on D := by
              rintro (z | z)
              · exact (r2.pv D List.mem_cons_self).1 ((onC_eq rfl).mpr z)
              · obtain ⟨ν, _, e2, _⟩ := ex2.app
                rw [e2] at z
                obtain ⟨_, o, w, _⟩ := r1.pv D z
                rw [hD] at w; cases w
            rcases hk _ _ _ _ h3 with ⟨rfl, rfl, hF⟩ | ⟨rfl, rfl⟩
            · exact q ρ2 H2 _ (ex1.trans r1 ex2) r2.unhide (.lst hDl nD (VRels.sub (ρ := ρ2.hide D) (ρ' := ρ2) same_c show_on (va.fz hF)))
            · have exP : Ext ρ1 H1 (ρ2.push (D, D)) H2 := by
                obtain ⟨ν, e1, e2, e3⟩ := ex2.app
                refine ⟨⟨ν ++ [(D, D)], by simp [Rho.push, e1], e2, fun p hp => ?_⟩, ex2.keep⟩
                rcases List.mem_append.mp hp with hp | hp
                · exact e3 p hp
                · simp at hp; subst hp; exact ⟨hD, hD⟩
              have rP := Rel.out r2 nD hDl va
              exact q _ H2 _ (ex1.trans r1 exP) rP (.ref (p := (D, D)) (push_at r2.unhide _))
          | some v =>
            obtain ⟨go, stp⟩ := src_step st2.rel sj2 ha
            refine .inr ⟨go, fun H' => ∃ (ρ2 : Rho) (A2 : Hs) (acc : List AV) (c : Nat), LcSt G ρ1 H1 D H' ρ2 A2 acc c ∧ ERel G (ρ2.hide D) H' (wipeE e vs) (L2.wipe σ vs) ∧ SrcRel G (ρ2.hide D) H' s J ∧ lcOut s cg ct ci1 cg1 ct1 te (wipeE e vs) vs1 m (i + 1) acc c A2 = .ok out B2, fun H' h => ⟨m, Nat.lt_succ_self _, h⟩, fun x H3 y => ?_⟩
            obtain ⟨ex3, r3, vx⟩ := stp x H3 y
            dsimp only at hgo
            cases hg' : cg v (wipeE e vs) A2 with
            | bad => rw [hg'] at hgo; cases hgo
            | ok e4 A4 =>
              rw [hg'] at hgo
              dsimp only at hgo
              refine hg (ρ2.hide D) A2 H3 (wipeE e vs) (L2.wipe σ vs) v x e4 A4 (er2.mono ex3) vx hg' _ fun z σ4 er4 w4 => ⟨w4.trans (wipe_wipe _ _), ?_⟩
              subst z
              cases ht : ct e4 A4 with
              | bad => rw [ht] at hgo; cases hgo
              | ok bv A5 =>
                rw [ht] at hgo
                refine ⟨ρ2.hide D, A4, e4, r3, er4, .nil, bv, A5, ht, fun ρ5 H5 x5 ex5 r5 v5 => ?_⟩
                have exA := ex3.trans r3 ex5
                obtain ⟨ρ6, rfl, st6⟩ := st2.step exA r5
                cases v5 with
                | @bl _ b =>
                  dsimp only at hgo
                  refine ⟨b, rfl, ?_⟩
                  cases b with
                  | false => exact ⟨ρ6, A5, acc, c, st6, er2.mono exA, sj2.mono exA, hgo⟩
                  | true =>
                    rw [if_pos rfl]
                    dsimp only [pick] at hgo
                    cases hi1 : ci1 e4 A5 with
                    | bad => rw [hi1] at hgo; cases hgo
                    | ok s1 A6 =>
                      rw [hi1] at hgo
                      dsimp only at hgo
                      refine ⟨ρ6.hide D, A5, e4, r5, er4.mono ex5, s1, A6, hi1, fun ρ7 H7 J1 ex7 r7 sj7 => ?_⟩
                      have exB := exA.trans r5 ex7
                      obtain ⟨ρ8, rfl, st8⟩ := st2.step exB r7
                      cases hin : lcIn s1 cg1 ct1 te (wipeE e4 vs1) 100000 0 acc c A6 with
                      | mk ra c2 =>
                        rw [hin] at hgo
                        cases ra with
                        | bad => cases hgo
                        | ok acc2 A9 =>
                          dsimp only at hgo
                          refine lcIn_ok hD hg1 st8 ((er4.mono ex5).mono ex7) sj7 hin fun ρ9 H9 st9 ex9 => ⟨ρ9, A9, acc2, c2, st9, ?_, ?_, hgo⟩
                          · have c1 : ∀ a, ¬ (ρ8.hide D).on a → (fun a => if a = D then none else H7 a) a = H7 a := fun a n => if_neg fun z => n (.inr (by rw [z]; exact List.mem_cons_self))
                            have c2 : ∀ a, ¬ (ρ9.hide D).on a → H9 a = (fun a => if a = D then none else H9 a) a := fun a n => (if_neg fun z => n (.inr (by rw [z]; exact List.mem_cons_self))).symm
                            exact (((er2.mono exB).chg c1).mono ex9).chg c2
                          · have c1 : ∀ a, ¬ (ρ8.hide D).on a → (fun a => if a = D then none else H7 a) a = H7 a := fun a n => if_neg fun z => n (.inr (by rw [z]; exact List.mem_cons_self))
                            have c2 : ∀ a, ¬ (ρ9.hide D).on a → H9 a = (fun a => if a = D then none else H9 a) a := fun a n => (if_neg fun z => n (.inr (by rw [z]; exact List.mem_cons_self))).symm
                            exact (((sj2.mono exB).chg c1).mono ex9).chg c2
                | _ => cases hgo
end
section
variable {G : Gl} {X : Cx} {elt tg iter tg1 iter1 : Expr} {ifs ifs1 : List Expr} {ct te ct1 : CE} {ci ci1 : CI} {cg cg1 : CG} {g g1 : TG} {scope : Scope} {own : List (Str × Nat)} {vs1 : List Nat} {pos spos py : Pos} {k : List AV → Hs → R}
theorem pec_lc2 (hk : ∀ xs A v A', k xs A = .ok v A' → (v = .lst xs ∧ A' = A ∧ allF xs = true) ∨ (v = .ref A.length ∧ A' = A ++ [.lst xs])) (hc : X.calm = true) (hN : X.N.Nodup) (hi : PIc G X tg iter ci) (ok : BlkOk X.N X.env.scope scope own) (hv : ∀ i ∈ vs1, i ∈ own.map (·.2)) (tk : TgOk G (own.map (·.2)) g cg) (tk1 : TgOk G vs1 g1 cg1)
    (hg : ∀ (s : Shared) (H : Hp) (C : Addr) (cl : List (Str × Addr)) (fp : List Addr), PG (X.blk s H scope (compEnvC scope cl C X.env) fp) tg g) (ht : ∀ (s : Shared) (H : Hp) (C : Addr) (cl : List (Str × Addr)) (fp : List Addr), PTsc G (X.blk s H scope (compEnvC scope cl C X.env) fp) ifs ct)
    (hi1 : ∀ (s : Shared) (H : Hp) (C : Addr) (cl : List (Str × Addr)) (fp : List Addr), PIc G (X.blk s H scope (compEnvC scope cl C X.env) fp) tg1 iter1 ci1)
    (hg1 : ∀ (s : Shared) (H : Hp) (C : Addr) (cl : List (Str × Addr)) (fp : List Addr), PG (X.blk s H scope (compEnvC scope cl C X.env) fp) tg1 g1) (ht1 : ∀ (s : Shared) (H : Hp) (C : Addr) (cl : List (Str × Addr)) (fp : List Addr), PTsc G (X.blk s H scope (compEnvC scope cl C X.env) fp) ifs1 ct1)
    (he : ∀ (s : Shared) (H : Hp) (C : Addr) (cl : List (Str × Addr)) (fp : List Addr), PEc G (X.blk s H scope (compEnvC scope cl C X.env) fp) elt te) (hs : ∀ x, foldedSetIterable iter X.env x = pure x := by intro _; rfl) (hs1 : ∀ env x, foldedSetIterable iter1 env x = pure x := by intro _ _; rfl) :
    PEc G X (.ListComp elt [⟨tg, iter, ifs, 0⟩, ⟨tg1, iter1, ifs1, 0⟩] scope pos) (cLC2k k ci cg ct ci1 cg1 ct1 te (own.map (·.2)) vs1) :=
  (pe_lc2 hc hN hi ok hv hg ht hi1 hg1 ht1 he hs hs1).imp fun σ H Q h => lc2_core hk tk tk1 h
theorem psc_setLc2 {i : Nat} {y : Str} (hk : ∀ xs A v A', k xs A = .ok v A' → (v = .lst xs ∧ A' = A ∧ allF xs = true) ∨ (v = .ref A.length ∧ A' = A ++ [.lst xs])) (hc : X.calm = true) (hN : X.N.Nodup) (hy : X.N[i]? = some y) (hyl : X.env.scope.names.lookup y = some .local)
    (hsw : swapsWith (.ListComp elt [⟨tg, iter, ifs, 0⟩, ⟨tg1, iter1, ifs1, 0⟩] scope pos) (some (.Name y py)) spos.line X.env = pure true) (hi : PIc G X tg iter ci) (ok : BlkOk X.N X.env.scope scope own) (hv : ∀ i ∈ vs1, i ∈ own.map (·.2)) (tk : TgOk G (own.map (·.2)) g cg) (tk1 : TgOk G vs1 g1 cg1)
    (hg : ∀ (s : Shared) (H : Hp) (C : Addr) (cl : List (Str × Addr)) (fp : List Addr), PG (X.blk s H scope (compEnvC scope cl C X.env) fp) tg g) (ht : ∀ (s : Shared) (H : Hp) (C : Addr) (cl : List (Str × Addr)) (fp : List Addr), PTsc G (X.blk s H scope (compEnvC scope cl C X.env) fp) ifs ct)
    (hi1 : ∀ (s : Shared) (H : Hp) (C : Addr) (cl : List (Str × Addr)) (fp : List Addr), PIc G (X.blk s H scope (compEnvC scope cl C X.env) fp) tg1 iter1 ci1)
    (hg1 : ∀ (s : Shared) (H : Hp) (C : Addr) (cl : List (Str × Addr)) (fp : List Addr), PG (X.blk s H scope (compEnvC scope cl C X.env) fp) tg1 g1) (ht1 : ∀ (s : Shared) (H : Hp) (C : Addr) (cl : List (Str × Addr)) (fp : List Addr), PTsc G (X.blk s H scope (compEnvC scope cl C X.env) fp) ifs1 ct1)
    (he : ∀ (s : Shared) (H : Hp) (C : Addr) (cl : List (Str × Addr)) (fp : List Addr), PEc G (X.blk s H scope (compEnvC scope cl C X.env) fp) elt te) (hs : ∀ x, foldedSetIterable iter X.env x = pure x := by intro _; rfl) (hs1 : ∀ env x, foldedSetIterable iter1 env x = pure x := by intro _ _; rfl) :
    PSc G X (.Assign [.Name y py] (.ListComp elt [⟨tg, iter, ifs, 0⟩, ⟨tg1, iter1, ifs1, 0⟩] scope pos) spos) (sAsg (cLC2k k ci cg ct ci1 cg1 ct1 te (own.map (·.2)) vs1) (gN i)) :=
  (ps_setLc2 hc hN hy hyl hsw hi ok hv hg ht hi1 hg1 ht1 he hs hs1).imp fun D σ H h => by
    obtain ⟨ρ, A, e, r, er, q⟩ := h
    exact lc2_core hk tk tk1 (KS.asgN r er q)
end
def iEnu (c : CE) : CI := fun e A => match c e A with
  | .ok x A => (match tupOf x with
    | some xs => .ok (.enuT xs) A
    | none => (match sqlOf A x with
      | some _ => .ok (.enuL x) A
      | none => .bad))
  | .bad => .bad
def iZip' (a b : CE) : CI := fun e A => match a e A with
  | .ok x A => (match b e A with
    | .ok y A => (match tupOf x with
      | some xs => (match tupOf y with
        | some ys => .ok (.zipT xs ys) A
        | none => (match sqlOf A y with
          | some _ => .ok (.zipM xs y) A
          | none => .bad))
      | none => (match sqlOf A x with
        | some _ => (match sqlOf A y with
          | some _ => .ok (.zipL x y) A
          | none => .bad)
        | none => .bad))
    | .bad => .bad)
  | .bad => .bad
section
variable {X : Cx} {fa fc : Nat → Addr} {a b : Expr} {ca cb : CE} {elts : List Expr} {kk : Nat} {p pos tpos : Pos}
theorem pic_enuL (hg : L2.Gl X "enumerate") (hm : X.mg "enumerate" = none) (ha : PEc (gl X fa fc) X a ca) (hs : starEach [a] X.env = [(false, eval a X.env)] := by rfl) :
    PIc (gl X fa fc) X (.Tuple elts kk tpos) (.Call (.Name "enumerate" p) [a] [] pos) (iEnu ca) :=
  (pi_enumA hg hm (pa_cons ha pa_nil (by rw [hs]; rfl)) hs).imp fun σ H R h => by
    obtain ⟨ρ, A, e, r, er, sr, A', hc, k⟩ := h
    unfold iEnu at hc
    cases h1 : ca e A with
    | bad => rw [h1] at hc; cases hc
    | ok x B =>
      rw [h1] at hc
      dsimp only at hc
      split at hc
      · rename_i ys e1
        cases hc
        refine ⟨ρ, A, e, r, er, .nil, x, _, h1, fun ρ1 H1 xv ex r1 vx => ?_⟩
        obtain ⟨a, vs, rfl, f, vv⟩ := tupOf_ok vx e1
        exact ⟨a, vs, rfl, .inr ⟨f.sq, k ρ1 H1 _ ex r1 ⟨a, vs, f, vv, rfl⟩⟩⟩
      · split at hc
        · rename_i ys e1
          cases hc
          refine ⟨ρ, A, e, r, er, .nil, x, _, h1, fun ρ1 H1 xv ex r1 vx => ?_⟩
          obtain ⟨a, vs, rfl, q, vv⟩ := sqlOf_ok r1 vx e1
          exact ⟨a, vs, rfl, .inl ⟨q, k ρ1 H1 _ ex r1 ⟨a, vx, rfl⟩⟩⟩
        · cases hc
theorem pic_zip (hg : L2.Gl X "zip") (hm : X.mg "zip" = none) (ha : PEc (gl X fa fc) X a ca) (hb : PEc (gl X fa fc) X b cb) (hs : starEach [a, b] X.env = (false, eval a X.env) :: starEach [b] X.env := by rfl) (hs2 : starEach [b] X.env = (false, eval b X.env) :: starEach [] X.env := by rfl) (hpl : (backTo pos (starEach [b] X.env)).any (·.1) = false := by rfl) :
    PIc (gl X fa fc) X (.Tuple elts kk tpos) (.Call (.Name "zip" p) [a, b] [] pos) (iZip' ca cb) :=
  (pi_zip3 hg hm (pa_cons ha (pa_cons hb pa_nil hs2) hs) hs hpl).imp fun σ H R h => by
    obtain ⟨ρ, A, e, r, er, sr, A', hc, k⟩ := h
    unfold iZip' at hc
    cases h1 : ca e A with
    | bad => rw [h1] at hc; cases hc
    | ok x B =>
      rw [h1] at hc
      dsimp only at hc
      cases h2 : cb e B with
      | bad => rw [h2] at hc; cases hc
      | ok y B2 =>
        rw [h2] at hc
        dsimp only at hc
        refine ⟨ρ, A, e, r, er, .nil, x, B, h1, fun ρ1 H1 xv ex1 r1 vx => ⟨ρ1, B, e, r1, er.mono ex1, .nil, y, B2, h2, fun ρ2 H2 yv ex2 r2 vy => ?_⟩⟩
        have vx2 := vx.mono ex2
        have ex := ex1.trans r1 ex2
        split at hc
        · rename_i xs e1
          split at hc
          · rename_i ys e2
            cases hc
            obtain ⟨a, vs, rfl, f1, v1⟩ := tupOf_ok vx2 e1
            obtain ⟨b, ws, rfl, f2, v2⟩ := tupOf_ok vy e2
            exact ⟨a, b, vs, ws, rfl, .inr (.inl ⟨f1.sq, f2.sq, k ρ2 H2 _ ex r2 ⟨a, b, vs, ws, f1, v1, f2, v2, rfl⟩⟩)⟩
          · split at hc
            · rename_i ys e2
              cases hc
              obtain ⟨a, vs, rfl, f1, v1⟩ := tupOf_ok vx2 e1
              obtain ⟨b, ws, rfl, q2, v2⟩ := sqlOf_ok r2 vy e2
              exact ⟨a, b, vs, ws, rfl, .inr (.inr ⟨f1.sq, q2, k ρ2 H2 _ ex r2 ⟨a, b, vs, f1, v1, vy, rfl⟩⟩)⟩
            · cases hc
        · split at hc
          · rename_i xs e1
            split at hc
            · rename_i ys e2
              cases hc
              obtain ⟨a, vs, rfl, q1, v1⟩ := sqlOf_ok r2 vx2 e1
              obtain ⟨b, ws, rfl, q2, v2⟩ := sqlOf_ok r2 vy e2
              exact ⟨a, b, vs, ws, rfl, .inl ⟨q1, q2, k ρ2 H2 _ ex r2 ⟨a, b, vx2, vy, rfl⟩⟩⟩
            · cases hc
          · cases hc
end
end Ev
namespace Ev
open PySem PySem.Spec PyProof.Rows L2
abbrev CallT := Nat → List AV → Hs → R
def onU (f : AV → Option AV) (x : AV) : Option AV := match x with
  | .und => some .und
  | x => f x
def fzV (n0 ban : Nat) (A : Hs) : Nat → AV → Option AV
  | 0, _ => none
  | k + 1, v => match v with
    | .ref i => (match Nat.blt i n0 with
      | true => some (.ref i)
      | false => (match Nat.beq i ban with
        | true => none
        | false => (match A[i]? with
          | some (.lst xs) => (match optAll (fzV n0 ban A k) xs with
            | some ys => pick (allF ys) (some (.lst ys)) none
            | none => none)
          | some (.ins c fs) => (match optAll (onU (fzV n0 ban A k)) fs with
            | some ys => pick (ys.all fun y => match y with | .und => true | y => isF y) (some (.obj c ys)) none
            | none => none)
          | some (.dct b ks xs) => (match optAll (fzV n0 ban A k) xs with
            | some ys => pick (allF ys) (some (.dct b ks ys)) none
            | none => none)
          | _ => none)))
    | .mix xs => (match optAll (fzV n0 ban A k) xs with
      | some ys => some (mkT ys)
      | none => none)
    | .und => none
    | v => some v
def lowV (n0 : Nat) : AV → Bool
  | .ref i => Nat.blt i n0
  | .mix _ => false
  | _ => true
def lowC (n0 : Nat) : Cell → Bool
  | .lst xs => xs.all (lowV n0)
  | .ins _ fs => fs.all (lowV n0)
  | .dct _ _ xs => xs.all (lowV n0)
  | .tab _ => true
def fin1 (n0 : Nat) (v : AV) (A : Hs) : R := match Nat.beq A.length n0 with
  | true => .ok v A
  | false => (match fzV n0 A.length A 8 v with
    | some v' => pick ((A.take n0).all (lowC n0)) (.ok v' (A.take n0)) .bad
    | none => .bad)
/-- a new list that is handed out may change further -/
def finO (n0 : Nat) (v : AV) (A : Hs) : R := match v with
  | .ref i => (match Nat.blt i n0 with
    | true => fin1 n0 v A
    | false => (match A[i]? with
      | some (.lst xs) => (match optAll (fzV n0 i A 8) xs with
        | some ys => pick ((A.take n0).all (lowC n0)) (.ok (.ref n0) (A.take n0 ++ [.lst ys])) .bad
        | none => .bad)
      | _ => .bad))
  | v => fin1 n0 v A
def finT (n0 : Nat) : RS → R
  | .rt v A => finO n0 v A
  | .nx _ A => fin1 n0 .non A
  | _ => .bad
def finS (n0 : Nat) : RS → R
  | .rt v A => fin1 n0 v A
  | .nx _ A => fin1 n0 .non A
  | _ => .bad
def finK : RS → R
  | .rt v A => .ok v A
  | .nx _ A => .ok .non A
  | _ => .bad
section
variable {G : Gl} {ρ ρ' : Rho} {H : Hp} {A A' : Hs}
/-- what stands ahead stands apart from what came behind -/
structure Cut (ρ ρ' : Rho) : Prop where
  c : ∃ ν, ρ'.c = ρ.c ++ ν
  v : ρ'.v = ρ.v
theorem Cut.on (h : Cut ρ ρ') {a : Addr} (n : ¬ ρ'.on a) : ¬ ρ.on a := by
  obtain ⟨ν, e⟩ := h.c
  rintro (⟨p, hp, z⟩ | z)
  · exact n (.inl ⟨p, by rw [e]; exact List.mem_append_left _ hp, z⟩)
  · exact n (.inr (by rw [h.v]; exact z))
theorem Cut.behind (h : Cut ρ ρ') (r : Rel G ρ' A' H) {i : Nat} {p : Addr × Addr} (hi : ρ.c.length ≤ i) (hp : ρ'.c[i]? = some p) : ¬ ρ.on p.1 ∧ ¬ ρ.on p.2 := by
  obtain ⟨ν, e⟩ := h.c
  have ap : ∀ q ∈ ρ.c, Apart q p := fun q hq => by
    obtain ⟨j, hj, ej⟩ := List.mem_iff_getElem.mp hq
    have hq' : ρ'.c[j]? = some q := by rw [e, List.getElem?_append_left hj, List.getElem?_eq_getElem hj, ej]
    exact pw_at r.pw hq' hp (by omega)
  have pv : ∀ a ∈ ρ.v, ¬ ρ'.onC a := fun a ha => (r.pv a (by rw [h.v]; exact ha)).1
  have oc := onC_of hp
  constructor
  · rintro (⟨q, hq, z⟩ | z)
    · obtain ⟨a1, a2, a3, a4⟩ := ap q hq
      rcases z with z | z
      · exact a1 z.symm
      · exact a3 z.symm
    · exact pv _ z oc.1
  · rintro (⟨q, hq, z⟩ | z)
    · obtain ⟨a1, a2, a3, a4⟩ := ap q hq
      rcases z with z | z
      · exact a2 z.symm
      · exact a4 z.symm
    · exact pv _ z oc.2
def OnS (ρ ρ' : Rho) : Prop := ∀ {a : Addr}, ¬ ρ'.on a → ¬ ρ.on a
theorem Cut.s (h : Cut ρ ρ') : OnS ρ ρ' := fun n => h.on n
theorem TabR.cutC (h : OnS ρ ρ') {i : Nat} {p : Addr × Addr} (t : CRel G ρ' H (.tab i) p) : CRel G ρ H (.tab i) p := by
  obtain ⟨a, b, ps, d1, d2, d3⟩ := t
  exact ⟨a, b, ps, d1, d2, fun pos cv hcv => let ⟨c, e1, e2, e3⟩ := d3 pos cv hcv; ⟨c, e1, e2, h e3⟩⟩
theorem FzT.cut (h : OnS ρ ρ') {a : Addr} {vs : List V} (f : FzT G.K ρ' H a vs) : FzT G.K ρ H a vs := ⟨f.1, h f.2⟩
theorem FzL.cut (h : OnS ρ ρ') {a : Addr} {vs : List V} (f : FzL G.K ρ' H a vs) : FzL G.K ρ H a vs := by
  rcases f with ⟨f, n⟩ | f
  · exact .inl ⟨f, h n⟩
  · exact .inr f
mutual
theorem VRel.cut (h : OnS ρ ρ') : ∀ {x : AV} {v : V}, VRel G ρ' H true x v → VRel G ρ H true x v
  | _, _, .non => .non
  | _, _, .bl => .bl
  | _, _, .int => .int
  | _, _, .str => .str
  | _, _, .tup f t => .tup (f.cut h) (VRels.cutF h t)
  | _, _, .lst f n t => .lst f (h n) (VRels.cutF h t)
  | _, _, .scr f t => .scr (f.cut h) (VRels.cutF h t)
  | _, _, .obj s n1 n2 d t => .obj s (h n1) (h n2) d (FRels.cutF h t)
  | _, _, .dct f n t => .dct f (h n) (VRels.cutF h t)
  | _, _, .fn => .fn
  | _, _, .ty => .ty
  | _, _, .cls => .cls
theorem VRels.cutF (h : OnS ρ ρ') : ∀ {x : List AV} {v : List V}, VRels G ρ' H true x v → VRels G ρ H true x v
  | _, _, .nil => .nil
  | _, _, .cons a t => .cons (VRel.cut h a) (VRels.cutF h t)
theorem FRels.cutF (h : OnS ρ ρ') : ∀ {x : List AV} {v : List (Option V)}, FRels G ρ' H true x v → FRels G ρ H true x v
  | _, _, .nil => .nil
  | _, _, .und t => .und (FRels.cutF h t)
  | _, _, .undn t => .undn (FRels.cutF h t)
  | _, _, .cons a t => .cons (VRel.cut h a) (FRels.cutF h t)
end
theorem blt_lt {i n : Nat} (h : Nat.blt i n = true) : i < n := Nat.le_of_ble_eq_true h
theorem blt_ge {i n : Nat} (h : Nat.blt i n = false) : n ≤ i := Nat.le_of_not_lt fun z => by
  have : Nat.blt i n = true := Nat.ble_eq_true_of_le z
  rw [h] at this; cases this
theorem optAll_rel {f : AV → Option AV} (hf : ∀ x v y, VRel G ρ' H false x v → f x = some y → VRel G ρ H false y v) : ∀ {xs : List AV} {vs : List V} {ys : List AV}, VRels G ρ' H false xs vs → optAll f xs = some ys → VRels G ρ H false ys vs
  | _, _, _, .nil, e => by cases e; exact .nil
  | _, _, ys, .cons h t, e => by
    unfold optAll at e
    split at e
    · rename_i y h1
      split at e
      · rename_i zs h2
        cases e
        exact .cons (hf _ _ _ h h1) (optAll_rel hf t h2)
      · cases e
    · cases e
theorem not_und {t : Bool} {x : AV} {v : V} (h : VRel G ρ H t x v) : x ≠ .und := by
  intro z
  subst z
  cases h
theorem onU_of {f : AV → Option AV} {x : AV} (h : x ≠ .und) : onU f x = f x := by
  cases x <;> first | rfl | exact absurd rfl h
theorem optAll_frel {f : AV → Option AV} (hf : ∀ x v y, VRel G ρ' H false x v → f x = some y → VRel G ρ H false y v) : ∀ {xs : List AV} {vs : List (Option V)} {ys : List AV}, FRels G ρ' H false xs vs → optAll (onU f) xs = some ys → (ys.all fun y => match y with | .und => true | y => isF y) = true → FRels G ρ H true ys vs
  | _, _, _, .nil, e, _ => by cases e; exact .nil
  | _, _, ys, .und t, e, a => by
    unfold optAll at e
    dsimp only [onU] at e
    split at e
    · rename_i zs h2
      cases e
      rw [List.all_cons, Bool.and_eq_true] at a
      exact .und (optAll_frel hf t h2 a.2)
    · cases e
  | _, _, ys, .undn t, e, a => by
    unfold optAll at e
    dsimp only [onU] at e
    split at e
    · rename_i zs h2
      cases e
      rw [List.all_cons, Bool.and_eq_true] at a
      exact .undn (optAll_frel hf t h2 a.2)
    · cases e
  | _, _, ys, .cons h t, e, a => by
    unfold optAll at e
    rw [onU_of (not_und h)] at e
    split at e
    · rename_i y h1
      split at e
      · rename_i zs h2
        cases e
        rw [List.all_cons, Bool.and_eq_true] at a
        have hy := hf _ _ _ h h1
        refine .cons (hy.fz ?_) (optAll_frel hf t h2 a.2)
        have a1 := a.1
        cases y <;> first | exact a1 | exact absurd rfl (not_und hy)
      · cases e
    · cases e
theorem fzV_ok (hc : OnS ρ ρ') (r : Rel G ρ' A' H) {n0 ban : Nat} (lw : ∀ (i : Nat) (p : Addr × Addr), i < n0 → ρ'.c[i]? = some p → ρ.c[i]? = some p) (bh : ∀ (i : Nat) (p : Addr × Addr), n0 ≤ i → i ≠ ban → i < A'.length → ρ'.c[i]? = some p → ¬ ρ.on p.1 ∧ ¬ ρ.on p.2) : ∀ (k : Nat) (x : AV) (v : V) (y : AV), VRel G ρ' H false x v → fzV n0 ban A' k x = some y → VRel G ρ H false y v := by
  intro k
  induction k with
  | zero => intro x v y _ e; cases e
  | succ k ih =>
    intro x v y h e
    unfold fzV at e
    cases h with
    | non => cases e; exact .non
    | bl => cases e; exact .bl
    | int => cases e; exact .int
    | str => cases e; exact .str
    | tup f t => cases e; exact .tup (f.cut hc) (VRels.cutF hc t)
    | lst f n t => cases e; exact .lst f (hc n) (VRels.cutF hc t)
    | scr f t => cases e; exact .scr (f.cut hc) (VRels.cutF hc t)
    | obj s n1 n2 d t => cases e; exact .obj s (hc n1) (hc n2) d (FRels.cutF hc t)
    | dct f n t => cases e; exact .dct f (hc n) (VRels.cutF hc t)
    | fn => cases e; exact .fn
    | ty => cases e; exact .ty
    | cls => cases e; exact .cls
    | @mix xs a vs f t =>
      dsimp only at e
      cases h1 : optAll (fzV n0 ban A' k) xs with
      | none => rw [h1] at e; cases e
      | some ys =>
        rw [h1] at e
        cases e
        exact .mkT (f.cut hc) (optAll_rel ih t h1)
    | @ref i p hp =>
      dsimp only at e
      cases hb : Nat.blt i n0 with
      | true =>
        rw [hb] at e
        cases e
        exact .ref (lw i p (blt_lt hb) hp)
      | false =>
        rw [hb] at e
        dsimp only at e
        have ge := blt_ge hb
        cases hq : Nat.beq i ban with
        | true => rw [hq] at e; cases e
        | false =>
        rw [hq] at e
        dsimp only at e
        have nb : i ≠ ban := fun z => by
          rw [z, Nat.beq_refl] at hq
          cases hq
        obtain ⟨b1, b2⟩ := bh i p ge nb (by rw [← r.len]; exact (List.getElem?_eq_some_iff.mp hp).1) hp
        split at e
        · rename_i xs hA
          cases h1 : optAll (fzV n0 ban A' k) xs with
          | none => rw [h1] at e; cases e
          | some ys =>
            rw [h1] at e
            dsimp only at e
            cases hF : allF ys with
            | false => rw [hF] at e; cases e
            | true =>
              rw [hF] at e
              cases e
              obtain ⟨_, vs, q1, q2⟩ := r.cell i _ p hA hp
              exact .lst q1 b1 ((optAll_rel ih q2 h1).fz hF)
        · rename_i c fs hA
          cases h1 : optAll (onU (fzV n0 ban A' k)) fs with
          | none => rw [h1] at e; cases e
          | some ys =>
            rw [h1] at e
            dsimp only at e
            cases hF : (ys.all fun y => match y with | .und => true | y => isF y) with
            | false => rw [hF] at e; cases e
            | true =>
              rw [hF] at e
              cases e
              obtain ⟨_, q0, vs, q1, q2⟩ := r.cell i _ p hA hp
              exact .obj q1 b1 b2 (q0.imp fun _ z => ⟨z.1, z.2.2⟩) (optAll_frel ih q2 h1 hF)
        · rename_i b ks xs hA
          cases h1 : optAll (fzV n0 ban A' k) xs with
          | none => rw [h1] at e; cases e
          | some ys =>
            rw [h1] at e
            dsimp only at e
            cases hF : allF ys with
            | false => rw [hF] at e; cases e
            | true =>
              rw [hF] at e
              cases e
              obtain ⟨_, vs, q1, q2⟩ := r.cell i _ p hA hp
              exact .dct q1.to b1 ((optAll_rel ih q2 h1).fz hF)
        · cases e
theorem lowV_ok (hc : OnS ρ ρ') {n0 : Nat} (lw : ∀ (i : Nat) (p : Addr × Addr), i < n0 → ρ'.c[i]? = some p → ρ.c[i]? = some p) {x : AV} {v : V} (h : VRel G ρ' H false x v) (e : lowV n0 x = true) : VRel G ρ H false x v := by
  cases h with
  | non => exact .non
  | bl => exact .bl
  | int => exact .int
  | str => exact .str
  | tup f t => exact .tup (f.cut hc) (VRels.cutF hc t)
  | lst f n t => exact .lst f (hc n) (VRels.cutF hc t)
  | scr f t => exact .scr (f.cut hc) (VRels.cutF hc t)
  | obj s n1 n2 d t => exact .obj s (hc n1) (hc n2) d (FRels.cutF hc t)
  | dct f n t => exact .dct f (hc n) (VRels.cutF hc t)
  | fn => exact .fn
  | ty => exact .ty
  | cls => exact .cls
  | mix f t => cases e
  | @ref i p hp => exact .ref (lw i p (blt_lt e) hp)
theorem lowVs_ok (hc : OnS ρ ρ') {n0 : Nat} (lw : ∀ (i : Nat) (p : Addr × Addr), i < n0 → ρ'.c[i]? = some p → ρ.c[i]? = some p) : ∀ {xs : List AV} {vs : List V}, VRels G ρ' H false xs vs → xs.all (lowV n0) = true → VRels G ρ H false xs vs
  | _, _, .nil, _ => .nil
  | _, _, .cons h t, e => by
    rw [List.all_cons, Bool.and_eq_true] at e
    exact .cons (lowV_ok hc lw h e.1) (lowVs_ok hc lw t e.2)
theorem lowFs_ok (hc : OnS ρ ρ') {n0 : Nat} (lw : ∀ (i : Nat) (p : Addr × Addr), i < n0 → ρ'.c[i]? = some p → ρ.c[i]? = some p) : ∀ {xs : List AV} {vs : List (Option V)}, FRels G ρ' H false xs vs → xs.all (lowV n0) = true → FRels G ρ H false xs vs
  | _, _, .nil, _ => .nil
  | _, _, .und t, e => by
    rw [List.all_cons, Bool.and_eq_true] at e
    exact .und (lowFs_ok hc lw t e.2)
  | _, _, .undn t, e => by
    rw [List.all_cons, Bool.and_eq_true] at e
    exact .undn (lowFs_ok hc lw t e.2)
  | _, _, .cons h t, e => by
    rw [List.all_cons, Bool.and_eq_true] at e
    exact .cons (lowV_ok hc lw h e.1) (lowFs_ok hc lw t e.2)
theorem Cut.lw (h : Cut ρ ρ') {n0 : Nat} (hn : n0 = ρ.c.length) : ∀ (i : Nat) (p : Addr × Addr), i < n0 → ρ'.c[i]? = some p → ρ.c[i]? = some p := fun i p hi hp => by
  obtain ⟨ν, e1⟩ := h.c
  rw [e1, List.getElem?_append_left (by omega)] at hp
  exact hp
theorem Rel.cut (hc : Cut ρ ρ') (r : Rel G ρ' A' H) {n0 : Nat} (hn : n0 = ρ.c.length) (e : ((A'.take n0).all (lowC n0)) = true) : Rel G ρ (A'.take n0) H := by
  obtain ⟨ν, e1⟩ := hc.c
  have hl := r.len
  rw [e1, List.length_append] at hl
  refine ⟨by rw [List.length_take]; omega, ?_, fun i c p ha hp => ?_, fun a ha => ?_⟩
  · have := r.pw
    rw [e1] at this
    exact (List.pairwise_append.mp this).1
  · have hp' : ρ'.c[i]? = some p := by rw [e1, List.getElem?_append_left (List.getElem?_eq_some_iff.mp hp).1]; exact hp
    have hi : i < n0 := by have := (List.getElem?_eq_some_iff.mp hp).1; omega
    have lw : lowC n0 c = true := List.all_eq_true.mp e c (List.mem_of_getElem? ha)
    rw [List.getElem?_take, if_pos hi] at ha
    have q := r.cell i c p ha hp'
    cases c with
    | lst xs => obtain ⟨q1, vs, q2, q3⟩ := q; exact ⟨q1, vs, q2, lowVs_ok hc.s (hc.lw hn) q3 lw⟩
    | ins c fs => obtain ⟨q1, q2, vs, q3, q4⟩ := q; exact ⟨q1, q2, vs, q3, lowFs_ok hc.s (hc.lw hn) q4 lw⟩
    | dct b ks xs => obtain ⟨q1, vs, q2, q3⟩ := q; exact ⟨q1, vs, q2, lowVs_ok hc.s (hc.lw hn) q3 lw⟩
    | tab i => exact TabR.cutC hc.s q
  · obtain ⟨n, q⟩ := r.pv a (by rw [hc.v]; exact ha)
    exact ⟨fun ⟨p, hp, z⟩ => n ⟨p, by rw [e1]; exact List.mem_append_left _ hp, z⟩, q⟩
theorem Ext.cut {H0 : Hp} (e : Ext ρ H0 ρ' H) : Cut ρ ρ' := let ⟨ν, e1, e2, _⟩ := e.app; ⟨⟨ν, e1⟩, e2⟩
/-- the end of a def -/
theorem fin1_ok {H0 : Hp} {v v' : AV} {x : V} {A'' : Hs} (r0 : Rel G ρ A H0) (ex : Ext ρ H0 ρ' H) (r : Rel G ρ' A' H) (hv : VRel G ρ' H false v x) (e : fin1 A.length v A' = .ok v' A'') : ∃ ρ2, Ext ρ H0 ρ2 H ∧ Rel G ρ2 A'' H ∧ VRel G ρ2 H false v' x := by
  unfold fin1 at e
  split at e
  · cases e
    exact ⟨ρ', ex, r, hv⟩
  · cases h1 : fzV A.length A'.length A' 8 v with
    | none => rw [h1] at e; cases e
    | some y =>
      rw [h1] at e
      dsimp only at e
      cases h2 : ((A'.take A.length).all (lowC A.length)) with
      | false => rw [h2] at e; cases e
      | true =>
        rw [h2] at e
        cases e
        exact ⟨ρ, ⟨⟨[], by simp⟩, ex.keep⟩, Rel.cut ex.cut r r0.len.symm h2, fzV_ok ex.cut.s r (ex.cut.lw r0.len.symm) (fun i p hi _ _ hp => ex.cut.behind r (by rw [← r0.len] at hi; exact hi) hp) 8 v x _ hv h1⟩
/-- the end of a def that hands out a list of its own -/
theorem finO_ok {H0 : Hp} {v v' : AV} {x : V} {A'' : Hs} (r0 : Rel G ρ A H0) (ex : Ext ρ H0 ρ' H) (r : Rel G ρ' A' H) (hv : VRel G ρ' H false v x) (e : finO A.length v A' = .ok v' A'') : ∃ ρ2, Ext ρ H0 ρ2 H ∧ Rel G ρ2 A'' H ∧ VRel G ρ2 H false v' x := by
  unfold finO at e
  split at e
  · rename_i i
    cases hb : Nat.blt i A.length with
    | true => rw [hb] at e; exact fin1_ok r0 ex r hv e
    | false =>
      rw [hb] at e
      dsimp only at e
      have ge := blt_ge hb
      split at e
      · rename_i xs hA
        cases h1 : optAll (fzV A.length i A' 8) xs with
        | none => rw [h1] at e; cases e
        | some ys =>
          rw [h1] at e
          dsimp only at e
          cases h2 : ((A'.take A.length).all (lowC A.length)) with
          | false => rw [h2] at e; cases e
          | true =>
            rw [h2] at e
            cases e
            cases hv with
            | @ref _ p hp =>
            obtain ⟨ν, e1, e2, e3⟩ := ex.app
            have hl := r0.len
            have hpν : p ∈ ν := by
              rw [e1, List.getElem?_append_right (by omega)] at hp
              exact List.mem_of_getElem? hp
            obtain ⟨q1, vs, q2, q3⟩ := r.cell i _ p hA hp
            have onS : OnS (ρ.push p) ρ' := fun {a} n z => by
              rcases z with ⟨q, hq, w⟩ | z
              · refine n (.inl ⟨q, ?_, w⟩)
                rw [e1]
                rcases List.mem_append.mp hq with hq | hq
                · exact List.mem_append_left _ hq
                · rw [show q = p by simpa using hq]; exact List.mem_append_right _ hpν
              · exact n (.inr (by rw [e2]; exact z))
            have lw0 := ex.cut.lw hl.symm
            have lw : ∀ (j : Nat) (q : Addr × Addr), j < A.length → ρ'.c[j]? = some q → (ρ.push p).c[j]? = some q := fun j q hj hq => by
              show (ρ.c ++ [p])[j]? = some q
              rw [List.getElem?_append_left (by omega)]
              exact lw0 j q hj hq
            have bh : ∀ (j : Nat) (q : Addr × Addr), A.length ≤ j → j ≠ i → j < A'.length → ρ'.c[j]? = some q → ¬ (ρ.push p).on q.1 ∧ ¬ (ρ.push p).on q.2 := fun j q hj nj _ hq => by
              obtain ⟨b1, b2⟩ := ex.cut.behind r (by omega) hq
              obtain ⟨a1, a2, a3, a4⟩ := pw_at r.pw hq hp nj
              constructor
              · rintro (⟨u, hu, w⟩ | z)
                · rcases List.mem_append.mp hu with hu | hu
                  · exact b1 (.inl ⟨u, hu, w⟩)
                  · rw [show u = p by simpa using hu] at w
                    rcases w with w | w
                    · exact a1 w
                    · exact a2 w
                · exact b1 (.inr z)
              · rintro (⟨u, hu, w⟩ | z)
                · rcases List.mem_append.mp hu with hu | hu
                  · exact b2 (.inl ⟨u, hu, w⟩)
                  · rw [show u = p by simpa using hu] at w
                    rcases w with w | w
                    · exact a3 w
                    · exact a4 w
                · exact b2 (.inr z)
            obtain ⟨bp1, bp2⟩ := ex.cut.behind r (by omega) hp
            refine ⟨ρ.push p, ⟨⟨[p], rfl, rfl, fun q hq => by rw [show q = p by simpa using hq]; exact e3 p hpν⟩, ex.keep⟩, ⟨?_, ?_, fun j c q ha hq => ?_, fun a ha => ?_⟩, .ref (p := p) ?_⟩
            · have hl' := r.len
              rw [e1, List.length_append] at hl'
              show (ρ.c ++ [p]).length = (A'.take A.length ++ [Cell.lst ys]).length
              simp only [List.length_append, List.length_take, List.length_singleton]
              omega
            · refine List.pairwise_append.mpr ⟨r0.pw, List.pairwise_singleton _ _, fun u hu q hq => ?_⟩
              rw [show q = p by simpa using hq]
              exact ⟨fun z => bp1 (.inl ⟨u, hu, .inl z.symm⟩), fun z => bp2 (.inl ⟨u, hu, .inl z.symm⟩), fun z => bp1 (.inl ⟨u, hu, .inr z.symm⟩), fun z => bp2 (.inl ⟨u, hu, .inr z.symm⟩)⟩
            · have hlt : (A'.take A.length).length = A.length := by
                have hl' := r.len
                rw [e1, List.length_append] at hl'
                rw [List.length_take]; omega
              by_cases hj : j < A.length
              · rw [List.getElem?_append_left (by omega)] at ha
                have lwc : lowC A.length c = true := List.all_eq_true.mp h2 c (List.mem_of_getElem? ha)
                rw [List.getElem?_take, if_pos hj] at ha
                have hq' : ρ'.c[j]? = some q := by
                  have hq2 : (ρ.c ++ [p])[j]? = some q := hq
                  rw [List.getElem?_append_left (by omega)] at hq2
                  rw [e1, List.getElem?_append_left (by omega)]
                  exact hq2
                have qq := r.cell j c q ha hq'
                cases c with
                | lst zs => obtain ⟨q1, vs, q2, q3⟩ := qq; exact ⟨q1, vs, q2, lowVs_ok onS lw q3 lwc⟩
                | ins c fs => obtain ⟨q1, q2, vs, q3, q4⟩ := qq; exact ⟨q1, q2, vs, q3, lowFs_ok onS lw q4 lwc⟩
                | dct b ks xs => obtain ⟨q1, vs, q2, q3⟩ := qq; exact ⟨q1, vs, q2, lowVs_ok onS lw q3 lwc⟩
                | tab i => exact TabR.cutC onS qq
              · rw [List.getElem?_append_right (by omega)] at ha
                have hj0 : j - (A'.take A.length).length = 0 := by
                  have := (List.getElem?_eq_some_iff.mp ha).1
                  simp at this
                  rw [List.length_take]; omega
                rw [hj0] at ha
                simp at ha
                subst ha
                have hq2 : (ρ.c ++ [p])[j]? = some q := hq
                rw [List.getElem?_append_right (by omega)] at hq2
                have : j - ρ.c.length = 0 := by
                  have := (List.getElem?_eq_some_iff.mp hq2).1
                  simp at this; omega
                rw [this] at hq2
                simp at hq2
                subst hq2
                exact ⟨q1, vs, q2, optAll_rel (fzV_ok onS r lw bh 8) q3 h1⟩
            · obtain ⟨n, o, q⟩ := r.pv a (by rw [e2]; exact ha)
              refine ⟨fun z => ?_, o, q⟩
              obtain ⟨u, hu, w⟩ := z
              refine n ⟨u, ?_, w⟩
              rw [e1]
              rcases List.mem_append.mp hu with hu | hu
              · exact List.mem_append_left _ hu
              · rw [show u = p by simpa using hu]; exact List.mem_append_right _ hpν
            · show (ρ.c ++ [p])[A.length]? = some p
              rw [List.getElem?_append_right (by omega), show A.length - ρ.c.length = 0 by omega]
              rfl
      · cases e
  · exact fin1_ok r0 ex r hv e
end
/-- what becomes of a def's own lists at its end: frozen; kept; the one that is handed out may change further -/
inductive Md where
  | fz | kp | ou
def finM (m : Md) (n0 : Nat) (r : RS) : R := match m with
  | .fz => finS n0 r
  | .kp => finK r
  | .ou => finT n0 r
structure FnC where
  np : Nat
  nl : Nat
  md : Md
  code : CallT → CS
def callF (F : Nat → Option FnC) : Nat → CallT
  | 0 => fun _ _ _ => .bad
  | n + 1 => fun f us A => match F f with
    | some fc => (match Nat.beq us.length fc.np with
      | true => finM fc.md A.length (fc.code (callF F n) (us ++ List.replicate (fc.nl - fc.np) .und) A)
      | false => .bad)
    | none => .bad
def spF (G : Gl) (call : CallT) (f : Nat) : Sp := fun vs H Q _ => ∃ ρ A us, Rel G ρ A H ∧ VRels G ρ H false us vs ∧ ∃ w A', call f us A = .ok w A' ∧ Kon G ρ H Q w A'
theorem und_rel {G : Gl} {ρ : Rho} {H : Hp} : ∀ m : Nat, ERel G ρ H (List.replicate m .und) (List.replicate m none)
  | 0 => .nil
  | m + 1 => .und (und_rel m)
theorem args_rel {G : Gl} {ρ : Rho} {H : Hp} {m : Nat} : ∀ {us : List AV} {vs : List V}, VRels G ρ H false us vs → ERel G ρ H (us ++ List.replicate m .und) (vs.map some ++ List.replicate m none)
  | _, _, .nil => und_rel m
  | _, _, .cons a t => .cons a (args_rel t)
theorem start_rel {G : Gl} {ρ : Rho} {H : Hp} {N : List Str} {us : List AV} {vs : List V} {m : Nat} (h : VRels G ρ H false us vs) (hm : us.length + m = N.length) : ERel G ρ H (us ++ List.replicate m .und) (L2.start N vs) := by
  unfold L2.start
  have e : N.length - vs.length = m := by rw [← h.length]; omega
  rw [e]
  exact args_rel h
section
variable {P : Program} {w : World} {mg : Str → Option Value} {base : Heap} {x qual : Str} {params : Arguments} {body : List Stmt} {scope : Scope} {dvs : List V} {kws : List (Str × V)} {fd : FuncData} {N ps : List Str} {G : Gl} {F : Nat → Option FnC}
theorem callF_len {f n : Nat} {fc : FnC} (hF : F f = some fc) {us : List AV} {A A' : Hs} {v : AV} (hc : callF F (n + 1) f us A = .ok v A') : us.length = fc.np := by
  unfold callF at hc
  rw [hF] at hc
  dsimp only at hc
  cases hb : Nat.beq us.length fc.np with
  | false => rw [hb] at hc; cases hc
  | true => exact Nat.eq_of_beq_eq_true hb
theorem FunD_okC {CX : CXT} {K : PySem.W.Frag} {f : Addr} {k : Nat} {sp : Sp} (C : Value → Prop) (D : FunD K x qual params body scope dvs kws f fd) (hC : ∀ oc od osl, K.lookup f = some ⟨oc, od, .func fd, osl⟩ → PySem.W.codeIn K fd.code qual = true → C fd.code) (S : FnScope N ps scope) (len : ∀ vs H Q E, sp vs H Q E → vs.length = ps.length)
    (hb : ∀ (cdv : Value), C cdv → ∀ (A : Around) (outer : List Env) (s : Shared) (H : Hp) (vs : List V) (Q : VK) (E : XK), Room k (A.deeper (envOfC qual scope s.heap.objs.size f cdv)) → sp vs H Q E →
      ∃ t, PSs (cxOf CX P w K mg base N qual scope f cdv A outer s H E) body t ∧ t { nx := fun _ H' => Q .non H', rt := Q } (L2.start N vs) H) : FnOk P w K mg base CX (k + 1) f fd ps sp := by
  obtain ⟨oc, od, dV, kV, doc, pm, an, cdv, ct, osl, rfl, lk, hcd, _, _⟩ := D.ex
  exact fn_of lk hcd S len fun A outer s H vs Q E hr hsp => hb cdv (hC oc od osl lk hcd) A outer s H vs Q E hr hsp
/-- a def keeps what its code says; C: what is known of its code object -/
theorem fn_okC {f n : Nat} {fc : FnC} (C : Value → Prop) (hF : F f = some fc) (D : FunD G.K x qual params body scope dvs kws (G.fa f) fd) (hC : ∀ oc od osl, G.K.lookup (G.fa f) = some ⟨oc, od, .func fd, osl⟩ → PySem.W.codeIn G.K fd.code qual = true → C fd.code) (S : FnScope N ps scope) (h1 : ps.length = fc.np) (h2 : N.length = fc.nl)
    (hbody : ∀ (cdv : Value), C cdv → ∀ (A : Around) (outer : List Env) (s : Shared) (H : Hp) (E : XK), Room (6 * n + 5) (A.deeper (envOfC qual scope s.heap.objs.size (G.fa f) cdv)) → PSsc G (cxOf CX0 P w G.K mg base N qual scope (G.fa f) cdv A outer s H E).nox body (fc.code (callF F n))) :
    FnOk P w G.K mg base CX0 (6 * (n + 1)) (G.fa f) fd ps (spF G (callF F (n + 1)) f) := by
  refine FunD_okC C D hC S (fun vs H Q E h => ?_) (fun cdv hcd A outer s H vs Q E hr h => ⟨tS G (fc.code (callF F n)), PSs.nox (hbody cdv hcd A outer s H E hr), ?_⟩)
  · obtain ⟨ρ, A, us, _, hv, v, A', hc, _⟩ := h
    rw [← hv.length, callF_len hF hc, h1]
  · obtain ⟨ρ, A0, us, r, hv, v, A', hc, k⟩ := h
    have hl := callF_len hF hc
    have hle : ps.length ≤ N.length := by
      have := congrArg List.length S.pre
      rw [List.length_take] at this
      omega
    refine ⟨ρ, A0, us ++ List.replicate (fc.nl - fc.np) .und, r, start_rel hv (by omega), ?_⟩
    unfold callF at hc
    rw [hF] at hc
    dsimp only at hc
    cases hb : Nat.beq us.length fc.np with
    | false => rw [hb] at hc; cases hc
    | true =>
      rw [hb] at hc
      dsimp only at hc
      cases hk : fc.md with
      | kp =>
        rw [hk] at hc
        dsimp only [finM] at hc
        cases hr : fc.code (callF F n) (us ++ List.replicate (fc.nl - fc.np) .und) A0 with
        | nx e B => rw [hr] at hc; cases hc; exact fun ρ' H' σ' ex rl er => k ρ' H' .non ex rl .non
        | rt u B => rw [hr] at hc; cases hc; exact fun ρ' H' y ex rl vy => k ρ' H' y ex rl vy
        | bk e B => rw [hr] at hc; cases hc
        | bad => rw [hr] at hc; cases hc
      | fz =>
        rw [hk] at hc
        dsimp only [finM] at hc
        cases hr : fc.code (callF F n) (us ++ List.replicate (fc.nl - fc.np) .und) A0 with
        | nx e B =>
          rw [hr] at hc
          intro ρ' H' σ' ex rl er
          obtain ⟨ρ2, e2, r2, v2⟩ := fin1_ok r ex rl (v := .non) (x := .non) .non hc
          exact k ρ2 H' .non e2 r2 v2
        | rt u B =>
          rw [hr] at hc
          intro ρ' H' y ex rl vy
          obtain ⟨ρ2, e2, r2, v2⟩ := fin1_ok r ex rl vy hc
          exact k ρ2 H' y e2 r2 v2
        | bk e B => rw [hr] at hc; cases hc
        | bad => rw [hr] at hc; cases hc
      | ou =>
        rw [hk] at hc
        dsimp only [finM] at hc
        cases hr : fc.code (callF F n) (us ++ List.replicate (fc.nl - fc.np) .und) A0 with
        | nx e B =>
          rw [hr] at hc
          intro ρ' H' σ' ex rl er
          obtain ⟨ρ2, e2, r2, v2⟩ := fin1_ok r ex rl (v := .non) (x := .non) .non hc
          exact k ρ2 H' .non e2 r2 v2
        | rt u B =>
          rw [hr] at hc
          intro ρ' H' y ex rl vy
          obtain ⟨ρ2, e2, r2, v2⟩ := finO_ok r ex rl vy hc
          exact k ρ2 H' y e2 r2 v2
        | bk e B => rw [hr] at hc; cases hc
        | bad => rw [hr] at hc; cases hc
/-- a def keeps what its code says -/
theorem fn_ok {f n : Nat} {fc : FnC} (hF : F f = some fc) (D : FunD G.K x qual params body scope dvs kws (G.fa f) fd) (S : FnScope N ps scope) (h1 : ps.length = fc.np) (h2 : N.length = fc.nl)
    (hbody : ∀ (cdv : Value) (A : Around) (outer : List Env) (s : Shared) (H : Hp) (E : XK), Room (6 * n + 5) (A.deeper (envOfC qual scope s.heap.objs.size (G.fa f) cdv)) → PSsc G (cxOf CX0 P w G.K mg base N qual scope (G.fa f) cdv A outer s H E).nox body (fc.code (callF F n))) :
    FnOk P w G.K mg base CX0 (6 * (n + 1)) (G.fa f) fd ps (spF G (callF F (n + 1)) f) := fn_okC (fun _ => True) hF D (fun _ _ _ _ _ => trivial) S h1 h2 fun cdv _ A outer s H E hr => hbody cdv A outer s H E hr
end
end Ev
namespace Ev
open PySem PySem.Spec PyProof.Rows L2
theorem _root_.L2.PE.orI {X : Cx} {e : Expr} {t u : TE} (h1 : PE X e t) (h2 : PE X e u) : PE X e (fun σ H Q => t σ H Q ∨ u σ H Q) := ⟨fun pins s σ H Q I q => q.elim (fun q => h1.run pins s σ H Q I q) fun q => h2.run pins s σ H Q I q⟩
theorem _root_.L2.PS.orI {X : Cx} {e : Stmt} {t u : TS} (h1 : PS X e t) (h2 : PS X e u) : PS X e (fun D σ H => t D σ H ∨ u D σ H) := ⟨fun pins s σ H D I q => q.elim (fun q => h1.run pins s σ H D I q) fun q => h2.run pins s σ H D I q⟩
theorem nodup_le : ∀ {l m : List Str}, l.Nodup → (∀ x ∈ l, x ∈ m) → l.length ≤ m.length
  | [], m, _, _ => Nat.zero_le _
  | x :: l, m, hn, hs => by
    obtain ⟨h1, h2⟩ := List.nodup_cons.mp hn
    have hx := hs x List.mem_cons_self
    have := nodup_le (l := l) (m := m.erase x) h2 fun y hy => (List.mem_erase_of_ne fun z => h1 (by rw [← z]; exact hy)).mpr (hs y (List.mem_cons_of_mem _ hy))
    rw [List.length_erase_of_mem hx] at this
    have := List.length_pos_of_mem hx
    rw [List.length_cons]
    omega
theorem plainNm_nodup (c : Nat) : (plainNm c).Nodup := by unfold plainNm; split <;> decide
theorem plainNm_len (c : Nat) : (plainNm c).length ≤ 5 := by unfold plainNm; split <;> decide
theorem lookup_mem {f : Str} {v : V} : ∀ {fs : List (Str × V)}, fs.lookup f = some v → (f, v) ∈ fs
  | [], h => by cases h
  | (g, w) :: r, h => by
    rw [List.lookup_cons] at h
    cases e : f == g with
    | true => rw [e] at h; cases h; rw [eq_of_beq e]; exact List.mem_cons_self
    | false => rw [e] at h; exact List.mem_cons_of_mem _ (lookup_mem h)
theorem putF_keys {f : Str} {v : V} : ∀ {fs : List (Str × V)}, (fs.map (·.1)).Nodup → ((putF f v fs).map (·.1)).Nodup ∧ ∀ p ∈ putF f v fs, p.1 = f ∨ ∃ q ∈ fs, q.1 = p.1
  | [], _ => ⟨by simp [putF], by simp [putF]⟩
  | (g, w) :: r, h => by
    rw [List.map_cons] at h
    obtain ⟨h1, h2⟩ := List.nodup_cons.mp h
    obtain ⟨i1, i2⟩ := putF_keys (f := f) (v := v) h2
    unfold putF
    by_cases e : g = f
    · rw [if_pos e]
      refine ⟨by rw [List.map_cons]; exact List.nodup_cons.mpr ⟨h1, h2⟩, fun p hp => ?_⟩
      rcases List.mem_cons.mp hp with rfl | hp
      · exact .inl e
      · exact .inr ⟨p, List.mem_cons_of_mem _ hp, rfl⟩
    · rw [if_neg e]
      refine ⟨by
        rw [List.map_cons]
        refine List.nodup_cons.mpr ⟨fun z => ?_, i1⟩
        obtain ⟨p, hp, e1⟩ := List.mem_map.mp z
        rcases i2 p hp with e2 | ⟨q, hq, e2⟩
        · exact e (e1.symm.trans e2)
        · exact h1 (List.mem_map.mpr ⟨q, hq, e2.trans e1⟩), fun p hp => ?_⟩
      rcases List.mem_cons.mp hp with rfl | hp
      · exact .inr ⟨_, List.mem_cons_self, rfl⟩
      · rcases i2 p hp with e2 | ⟨q, hq, e2⟩
        · exact .inl e2
        · exact .inr ⟨q, List.mem_cons_of_mem _ hq, e2⟩
theorem InsH.new {H : Hp} {C dx a : Addr} {c : Nat} (h : H a = some (.ins C dx [])) : InsH H C c a dx [] := by
  by_cases e : plainNm c = []
  · exact .sl e (.inl ⟨h, rfl⟩)
  · exact .pl e h (by simp) (by simp) (by simp)
theorem ins_inst {X : Cx} {pins : List (Addr × Obj)} {σ : L2.St} {H : Hp} {s : Shared} {a dx C : Addr} {c : Nat} {vs : List (Option V)} (I : Inv X pins σ H s) (h : InsH H C c a dx vs) : ∃ (o od : Obj), PySem.W.InstAt s.heap a o C (some od) ∧ ∀ f, f ∉ plainNm c → PySem.W.lookIn f od = some none := by
  cases h with
  | sl hp h =>
    obtain ⟨sl, od, _, J, hl⟩ := SlX.slt_inst I h
    exact ⟨_, od, J, fun f _ => hl f⟩
  | @pl fs hp h n m l =>
    obtain ⟨mA, O, r, _⟩ := ins_get I.hok h
    obtain ⟨od, J, hl⟩ := O.look
    refine ⟨_, od, J, fun f hf => ?_⟩
    rw [hl f]
    have := r f
    cases e : fs.lookup f with
    | some v => exact absurd (m _ (lookup_mem e)) hf
    | none =>
      rw [e] at this
      cases e2 : mA f with
      | none => rfl
      | some u => rw [e2] at this; exact this.elim
def cCall (call : CallT) (f : Nat) (dv : List AV) (a : CA) : CE := cArgs (fun xs A => call f (xs ++ dv) A) a
/-- positional ones, then keywords -/
def aApp (a b : CA) : CA := fun e A => match a e A with
  | .ok xs A => (match b e A with
    | .ok ys A => .ok (xs ++ ys) A
    | .bad => .bad)
  | .bad => .bad
/-- defaults are written numbers -/
def dV (ds : List Int) : List V := ds.map V.int
def dA (ds : List Int) : List AV := ds.map AV.int
section
variable {G : Gl} {X : Cx} {call : CallT} {f k : Nat} {fd : FuncData} {ps ks : List Str} {ds : List Value} {di : List Int} {x : Str} {p pos apos : Pos} {e o : Expr} {es : List Expr} {kws : List Keyword} {ca cb co : CE} {cr ck : CA} {σ : L2.St} {H : Hp} {Q : VK}
theorem tE_call (h : tE G (cCall call f (dA di) cr) σ H Q) : tCall (spF G call f) (dV di) E0 (tA G cr) σ H Q := by
  obtain ⟨ρ, A, e, r, er, vr, ws, A', hc, q⟩ := tE_args h
  refine ⟨ρ, A, e, r, er, vr, ws, A', hc, fun ρ1 H1 ys ex r1 vy => ?_⟩
  obtain ⟨us, ρ2, A2, r2, v2, w, A3, hf, kk⟩ := q ρ1 H1 ys ex r1 vy
  exact ⟨ρ2, A2, us ++ dA di, r2, v2.append VRels.ints, w, A3, hf, kk⟩
theorem pec_call (F : FnOk X.prog X.w X.K X.mg X.base CX0 k (G.fa f) fd ps (spF G call f)) (hr : Room k X.A) (hg : L2.Gl X x) (hm : X.mg x = some (.ref (G.fa f))) (hk : PySem.W.keepIn X.K (.ref (G.fa f)) = true) (hb : Binds X.K fd ps ds) (hd : Vals (dV di) ds)
    (ha : PAc G X (e :: es) cr) (hdb : (x == ("__debug__" : Str)) = false := by decide) (he : starEach (e :: es) X.env = (false, eval e X.env) :: starEach es X.env := by rfl) (hpl : (backTo pos (starEach es X.env)).any (·.1) = false := by rfl) :
    PEc G X (.Call (.Name x p) (e :: es) [] pos) (cCall call f (dA di) cr) := (pe_call F hr hg hm hk hb hd pass0 ha hdb he hpl).imp fun σ H Q h => tE_call h
abbrev PKc (G : Gl) (X : Cx) (kws : List Keyword) (c : CA) : Prop := PK X kws (tA G c)
theorem _root_.L2.PK.imp {X : Cx} {e : List Keyword} {t u : TA} (h : PK X e t) (i : ∀ σ H Q, u σ H Q → t σ H Q) : PK X e u := ⟨fun p pins s σ H Q I q => h.run p pins s σ H Q I (i σ H Q q)⟩
theorem pkc_nil : PKc G X [] aNil := pk_nil.imp fun σ H Q h => by
  obtain ⟨ρ, A, e, r, er, vr, w, A', hc, q⟩ := h
  cases hc
  exact q ρ H [] (Ext.refl _ _) r .nil
theorem pkc_cons {nm : Option Str} {kpos : Pos} (ha : PEc G X e ca) (hr : PKc G X kws cr) : PKc G X (⟨nm, e, kpos⟩ :: kws) (aCons ca cr) := (pk_cons ha hr).imp fun σ H Q h => tA_cons h
/-- f(e, .., k = v, ..): the keywords are the last parameters -/
theorem pec_callK {n : Nat} {g : List Value → List Value → List Value} (F : FnOk X.prog X.w X.K X.mg X.base CX0 k (G.fa f) fd ps (spF G call f)) (hr : Room k X.A) (hg : L2.Gl X x) (hm : X.mg x = some (.ref (G.fa f))) (hk : PySem.W.keepIn X.K (.ref (G.fa f)) = true) (hb : KBn X.K fd ps n ks g (fun vs zs => vs ++ zs))
    (ha : PAc G X (e :: es) cr) (hkw : PKc G X kws ck) (hn : ∀ e A xs A', cr e A = .ok xs A' → xs.length = n) (hm2 : ∀ e A xs A', ck e A = .ok xs A' → xs.length = ks.length)
    (hall : (backToKw pos (keywordEach kws X.env)).all (·.1.isSome) = true := by rfl) (hks : (backToKw pos (keywordEach kws X.env)).filterMap (·.1) = ks := by rfl)
    (hdb : (x == ("__debug__" : Str)) = false := by decide) (he : starEach (e :: es) X.env = (false, eval e X.env) :: starEach es X.env := by rfl)
    (hpl : ((backTo pos (starEach (e :: es) X.env)).any (·.1) || (backToKw pos (keywordEach kws X.env)).any (·.1.isNone)) = false := by rfl) :
    PEc G X (.Call (.Name x p) (e :: es) kws pos) (cCall call f [] (aApp cr ck)) := (pe_callN F hr hg hm hk hb pass0 ha hkw hall hks hdb he hpl).imp fun σ H Q h => by
  obtain ⟨ρ, A, e, r, er, vr, w, A', hc, q⟩ := h
  obtain ⟨us, A1, h1, h2⟩ := RA.bind_ok hc
  unfold aApp at h1
  cases h3 : cr e A with
  | bad => rw [h3] at h1; cases h1
  | ok xs B =>
    rw [h3] at h1
    dsimp only at h1
    cases h4 : ck e B with
    | bad => rw [h4] at h1; cases h1
    | ok ys B2 =>
      rw [h4] at h1
      cases h1
      dsimp only at h2
      rw [List.append_nil] at h2
      exact ⟨ρ, A, e, r, er, vr, xs, B, h3, fun ρ1 H1 vs1 ex r1 vy => ⟨ρ1, B, e, r1, er.mono ex, .nil, ys, _, h4, fun ρ2 H2 zs ex2 r2 vz =>
        ⟨by rw [← vy.length]; exact hn _ _ _ _ h3, by rw [← vz.length]; exact hm2 _ _ _ _ h4, ρ2, _, xs ++ ys, r2, (vy.mono ex2).append vz, w, A', h2, fun ρ3 H3 z ex3 r3 v3 => q ρ3 H3 z ((ex.trans r1 ex2).trans r2 ex3) r3 v3⟩⟩⟩
/-- a new instance, __init__ i, then frozen (or kept) -/
def vNew (call : CallT) (c i : Nat) (keep : Bool) (xs : List AV) (A : Hs) : R := match call i (.ref A.length :: xs) (A ++ [.ins c []]) with
  | .ok .non B => pick keep (.ok (.ref A.length) B) (fin1 A.length (.ref A.length) B)
  | _ => .bad
def cNew (call : CallT) (c i : Nat) (keep : Bool) (dv : List AV) (a : CA) : CE := cArgs (fun xs A => vNew call c i keep (xs ++ dv) A) a
theorem new_ext {ρ : Rho} {a dx : Addr} {C : Addr} (ha : H a = none) (hd : H dx = none) : Ext ρ H (ρ.push (a, dx)) (upd (upd H dx (.own a)) a (.ins C dx [])) :=
  ⟨⟨[(a, dx)], rfl, rfl, fun q hq => by simp at hq; subst hq; exact ⟨ha, hd⟩⟩, fun b u h _ => .inl (by rw [upd_ne (ne_of_none h ha), upd_ne (ne_of_none h hd)]; exact h)⟩
theorem Rel.newI {ρ : Rho} {A : Hs} {a dx : Addr} {c : Nat} (r : Rel G ρ A H) (ha : H a = none) (hd : H dx = none) (hne : dx ≠ a) : Rel G (ρ.push (a, dx)) (A ++ [.ins c []]) (upd (upd H dx (.own a)) a (.ins (G.ca c) dx [])) :=
  r.pushC (fun b hb => by
    obtain ⟨u, q⟩ := r.fullC hb
    rw [upd_ne (ne_of_none q ha), upd_ne (ne_of_none q hd)]) (new_ext ha hd) (r.not_on ha) (r.not_on hd) ⟨hne, ⟨.own a, by rw [upd_ne hne, upd_same], (fun _ z => by cases z), True.intro⟩, [], InsH.new upd_same, .nil⟩
theorem vNew_ok {ρ : Rho} {A A' : Hs} {c i : Nat} {keep : Bool} {us : List AV} {vs : List V} {w : AV} (r : Rel G ρ A H) (hv : VRels G ρ H false us vs) (h : vNew call c i keep us A = .ok w A') (kk : Kon G ρ H Q w A') :
    ∀ a dx, H a = none → H dx = none → dx ≠ a → spF G call i (.ref a :: vs) (upd (upd H dx (.own a)) a (.ins (G.ca c) dx [])) (fun v H2 => v = .non ∧ Q (.ref a) H2) E0 := by
  intro a dx ha hd hne
  unfold vNew at h
  split at h
  · rename_i B hB
    have ex0 := new_ext (ρ := ρ) (C := G.ca c) ha hd
    have at_ : (ρ.push (a, dx)).c[A.length]? = some (a, dx) := push_at r _
    refine ⟨ρ.push (a, dx), A ++ [.ins c []], .ref A.length :: us, r.newI ha hd hne, .cons (.ref (p := (a, dx)) at_) (hv.mono ex0), .non, B, hB, fun ρ' H' x ex r' vx => ?_⟩
    cases vx
    refine ⟨rfl, ?_⟩
    have exx := ex0.trans (r.newI (c := c) ha hd hne) ex
    have vr : VRel G ρ' H' false (.ref A.length) (.ref a) := .ref (p := (a, dx)) (ex.get at_)
    cases keep with
    | true => cases h; exact kk ρ' H' _ exx r' vr
    | false =>
      obtain ⟨ρ2, e2, r2, v2⟩ := fin1_ok r exx r' vr h
      exact kk ρ2 H' _ e2 r2 v2
  · cases h
theorem pec_new {c i : Nat} {keep : Bool} (M : Mk X.K (G.ca c) (G.fa i)) (F : FnOk X.prog X.w X.K X.mg X.base CX0 k (G.fa i) fd ps (spF G call i)) (hr : Room (k + 1) X.A) (hg : L2.Gl X x) (hm : X.mg x = some (.ref (G.ca c))) (hb : Binds X.K fd ps ds) (hd : Vals (dV di) ds)
    (ha : PAc G X (e :: es) cr) (hdb : (x == ("__debug__" : Str)) = false := by decide) (he : starEach (e :: es) X.env = (false, eval e X.env) :: starEach es X.env := by rfl) (hpl : (backTo pos (starEach es X.env)).any (·.1) = false := by rfl) :
    PEc G X (.Call (.Name x p) (e :: es) [] pos) (cNew call c i keep (dA di) cr) := (pe_make M F hr hg hm hb hd pass0 ha hdb he hpl).imp fun σ H Q h => by
  obtain ⟨ρ, A, e, r, er, vr, ws, A', hc, q⟩ := tE_args h
  refine ⟨ρ, A, e, r, er, vr, ws, A', hc, fun ρ1 H1 ys ex r1 vy => ?_⟩
  obtain ⟨us, ρ2, A2, r2, v2, w, A3, hf, kk⟩ := q ρ1 H1 ys ex r1 vy
  exact vNew_ok r2 (v2.append VRels.ints) hf kk
theorem pec_newK {c i n : Nat} {keep : Bool} {g : List Value → List Value → List Value} (M : Mk X.K (G.ca c) (G.fa i)) (F : FnOk X.prog X.w X.K X.mg X.base CX0 k (G.fa i) fd ps (spF G call i)) (hr : Room (k + 1) X.A) (hg : L2.Gl X x) (hm : X.mg x = some (.ref (G.ca c))) (hb : KBn X.K fd ps (n + 1) ks g (fun vs zs => vs ++ zs))
    (ha : PAc G X (e :: es) cr) (hkw : PKc G X kws ck) (hn : ∀ e A xs A', cr e A = .ok xs A' → xs.length = n) (hm2 : ∀ e A xs A', ck e A = .ok xs A' → xs.length = ks.length)
    (hall : (backToKw pos (keywordEach kws X.env)).all (·.1.isSome) = true := by rfl) (hks : (backToKw pos (keywordEach kws X.env)).filterMap (·.1) = ks := by rfl) (hdb : (x == ("__debug__" : Str)) = false := by decide)
    (he : starEach (e :: es) X.env = (false, eval e X.env) :: starEach es X.env := by rfl) (hpl : ((backTo pos (starEach (e :: es) X.env)).any (·.1) || (backToKw pos (keywordEach kws X.env)).any (·.1.isNone)) = false := by rfl) :
    PEc G X (.Call (.Name x p) (e :: es) kws pos) (cNew call c i keep [] (aApp cr ck)) := (pe_makeK M F hr hg hm hb pass0 ha hkw hall hks hdb he hpl).imp fun σ H Q h => by
  obtain ⟨ρ, A, e, r, er, vr, w, A', hc, q⟩ := h
  obtain ⟨us, A1, h1, h2⟩ := RA.bind_ok hc
  unfold aApp at h1
  cases h3 : cr e A with
  | bad => rw [h3] at h1; cases h1
  | ok xs B =>
    rw [h3] at h1
    dsimp only at h1
    cases h4 : ck e B with
    | bad => rw [h4] at h1; cases h1
    | ok ys B2 =>
      rw [h4] at h1
      cases h1
      dsimp only at h2
      rw [List.append_nil] at h2
      exact ⟨ρ, A, e, r, er, vr, xs, B, h3, fun ρ1 H1 vs1 ex r1 vy => ⟨ρ1, B, e, r1, er.mono ex, .nil, ys, _, h4, fun ρ2 H2 zs ex2 r2 vz =>
        ⟨by rw [← vy.length]; exact hn _ _ _ _ h3, by rw [← vz.length]; exact hm2 _ _ _ _ h4, vNew_ok r2 ((vy.mono ex2).append vz) h2 fun ρ3 H3 z ex3 r3 v3 => q ρ3 H3 z ((ex.trans r1 ex2).trans r2 ex3) r3 v3⟩⟩⟩
def insOf (A : Hs) : AV → Option (Nat × List AV)
  | .obj c fs => some (c, fs)
  | .ref i => (match A[i]? with
    | some (.ins c fs) => some (c, fs)
    | _ => none)
  | _ => none
theorem FRels.wk {t : Bool} {ρ : Rho} : ∀ {xs : List AV} {vs : List (Option V)}, FRels G ρ H t xs vs → FRels G ρ H false xs vs
  | _, _, .nil => .nil
  | _, _, .und q => .und (FRels.wk q)
  | _, _, .undn q => .undn (FRels.wk q)
  | _, _, .cons h q => .cons h.wk (FRels.wk q)
theorem insOf_ok {ρ : Rho} {A : Hs} {u : AV} {v : V} {c : Nat} {fs : List AV} (r : Rel G ρ A H) (h : VRel G ρ H false u v) (e : insOf A u = some (c, fs)) : ∃ a dx vs, v = .ref a ∧ InsH H (G.ca c) c a dx vs ∧ FRels G ρ H false fs vs := by
  cases h with
  | obj s n1 n2 d t => cases e; exact ⟨_, _, _, rfl, s, t.wk⟩
  | @ref i p hp =>
    unfold insOf at e
    dsimp only at e
    split at e
    · rename_i c' fs' hA
      cases e
      obtain ⟨_, _, vs, q1, q2⟩ := r.cell i _ p hA hp
      exact ⟨_, _, vs, rfl, q1, q2⟩
    · cases e
  | _ => cases e
theorem FRels.get {t : Bool} {ρ : Rho} : ∀ {xs : List AV} {vs : List (Option V)} {i : Nat} {x : AV}, FRels G ρ H t xs vs → xs[i]? = some x → x ≠ .und → ∃ v, vs[i]? = some (some v) ∧ VRel G ρ H t x v
  | _, _, _, _, .nil, e, _ => by simp at e
  | _, _, 0, _, .und q, e, n => by simp at e; exact absurd e.symm n
  | _, _, 0, _, .undn q, e, n => by simp at e; exact absurd e.symm n
  | _, _, 0, _, .cons h q, e, n => by simp at e; subst e; exact ⟨_, rfl, h⟩
  | _, _, i + 1, _, .und q, e, n => by
    obtain ⟨v, a, b⟩ := FRels.get q (by simpa using e) n
    exact ⟨v, by simpa using a, b⟩
  | _, _, i + 1, _, .undn q, e, n => by
    obtain ⟨v, a, b⟩ := FRels.get q (by simpa using e) n
    simp at a
  | _, _, i + 1, _, .cons h q, e, n => by
    obtain ⟨v, a, b⟩ := FRels.get q (by simpa using e) n
    exact ⟨v, by simpa using a, b⟩
/-- the field's place, by the class -/
def vFld (ix : Nat → Option Nat) (x : AV) (A : Hs) : R := match insOf A x with
  | some (c, fs) => (match ix c with
    | some i => (match fs[i]? with
      | some .und => .bad
      | some v => .ok v A
      | none => .bad)
    | none => .bad)
  | none => .bad
def cFld (ix : Nat → Option Nat) (a : CE) : CE := cUn (vFld ix) a
/-- the classes' variables of that name -/
def SlotsAt (K : PySem.W.Frag) (ca : Nat → Addr) (f : Str) (ix : Nat → Option Nat) : Prop := ∀ c i, ix c = some i → (plainNm c = [] ∧ SlX.SCls K (ca c) ∧ ∃ p, SlX.Slot1 K (ca c) f p i) ∨ (plainNm c ≠ [] ∧ (plainNm c)[i]? = some f ∧ Cls K (ca c) ∧ NoAttr K (ca c) f)
theorem pec_fld {fa fc : Nat → Addr} {fl : Str} {ix : Nat → Option Nat} (T : SlotsAt X.K fc fl ix) (he : PEc (gl X fa fc) X e ca) (hb : attributeBase e fl X.env (eval e X.env) = eval e X.env := by rfl) : PEc (gl X fa fc) X (.Attribute e fl pos) (cFld ix ca) := ((SlX.pe_sl he hb).orI (pe_fld he hb)).imp fun σ H Q h => by
  obtain ⟨ρ, A, e, r, er, vr, w, A', hc, q⟩ := h
  obtain ⟨x, B, hx, hf⟩ := R.bind_ok hc
  unfold vFld at hf
  split at hf
  · rename_i c fs e1
    split at hf
    · rename_i i e2
      split at hf
      · cases hf
      · rename_i y hn hy
        cases hf
        rcases T c i e2 with ⟨hp, sc, p, s1⟩ | ⟨hp, hnm, cc, na⟩
        · refine .inl ⟨ρ, A, e, r, er, .nil, x, A', hx, fun ρ1 H1 xv ex r1 vx => ?_⟩
          obtain ⟨a, dx, vs, rfl, s, t⟩ := insOf_ok r1 vx e1
          obtain ⟨v, q1, q2⟩ := t.get hy hn
          cases s with
          | sl _ s => exact ⟨a, fc c, dx, p, vs, i, v, rfl, s, sc, s1, q1, q ρ1 H1 v ex r1 q2⟩
          | pl hp' => exact absurd hp hp'
        · refine .inr ⟨ρ, A, e, r, er, .nil, x, A', hx, fun ρ1 H1 xv ex r1 vx => ?_⟩
          obtain ⟨a, dx, vs, rfl, s, t⟩ := insOf_ok r1 vx e1
          obtain ⟨v, q1, q2⟩ := t.get hy hn
          cases s with
          | sl hp' _ => exact absurd hp' hp
          | @pl fs' _ s n m l =>
            obtain ⟨nm, l1, l2⟩ := l i v q1
            rw [hnm] at l1
            cases l1
            exact ⟨a, fc c, dx, fs', v, rfl, s, cc, na, l2, q ρ1 H1 v ex r1 q2⟩
      · cases hf
    · cases hf
  · cases hf
def setF : List AV → Nat → AV → List AV
  | [], 0, v => [v]
  | _ :: r, 0, v => v :: r
  | [], i + 1, v => .und :: setF [] i v
  | x :: r, i + 1, v => x :: setF r i v
theorem FRels.tail {ρ : Rho} {x : AV} {xs : List AV} {o : Option V} {vs : List (Option V)} (h : FRels G ρ H false (x :: xs) (o :: vs)) : FRels G ρ H false xs vs := by
  cases h with
  | und q => exact q
  | cons _ q => exact q
theorem putS_zero {v : V} (vs : List (Option V)) : SlX.putS 0 v vs = some v :: vs.tail := by
  unfold SlX.putS
  cases vs with
  | nil => rfl
  | cons o r => simp
theorem putS_succ_nil {v : V} (i : Nat) : SlX.putS (i + 1) v [] = none :: SlX.putS i v [] := by
  unfold SlX.putS
  simp [List.replicate_succ]
theorem putS_succ_cons {v : V} (i : Nat) (o : Option V) (vs : List (Option V)) : SlX.putS (i + 1) v (o :: vs) = o :: SlX.putS i v vs := by
  unfold SlX.putS
  simp
theorem FRels.set {ρ : Rho} {y : AV} {v : V} (hy : VRel G ρ H false y v) : ∀ {xs : List AV} {vs : List (Option V)} (i : Nat), FRels G ρ H false xs vs → FRels G ρ H false (setF xs i y) (SlX.putS i v vs)
  | _, vs, 0, .nil => by rw [putS_zero]; exact .cons hy .nil
  | _, _, 0, .und q => by rw [putS_zero]; exact .cons hy q
  | _, _, 0, .undn q => by rw [putS_zero]; exact .cons hy q
  | _, _, 0, .cons h q => by rw [putS_zero]; exact .cons hy q
  | _, [], i + 1, .nil => by rw [putS_succ_nil]; exact .und (FRels.set hy i .nil)
  | _, o :: vs, i + 1, .nil => by rw [putS_succ_cons]; exact .und (FRels.set hy i .nil)
  | _, _, i + 1, .und q => by rw [putS_succ_cons]; exact .und (FRels.set hy i q)
  | _, _, i + 1, .undn q => by rw [putS_succ_nil]; exact .und (FRels.set hy i q)
  | _, _, i + 1, .cons h q => by rw [putS_succ_cons]; exact .cons h (FRels.set hy i q)
/-- o.f = v -/
def sFldS (ix : Nat → Option Nat) (o v : CE) : CS := fun e A => match v e A with
  | .ok y A => (match o e A with
    | .ok x A => (match x with
      | .ref j => (match A[j]? with
        | some (.ins c fs) => (match ix c with
          | some i => .nx e (A.set j (.ins c (setF fs i y)))
          | none => .bad)
        | _ => .bad)
      | _ => .bad)
    | .bad => .bad)
  | .bad => .bad
theorem putS_get {v w : V} : ∀ (i j : Nat) (vs : List (Option V)), (SlX.putS i v vs)[j]? = some (some w) → (j = i ∧ w = v) ∨ (j ≠ i ∧ vs[j]? = some (some w))
  | 0, 0, vs, h => by rw [putS_zero] at h; simp at h; exact .inl ⟨rfl, h.symm⟩
  | 0, j + 1, vs, h => by
    rw [putS_zero] at h
    refine .inr ⟨by omega, ?_⟩
    cases vs with
    | nil => simp at h
    | cons o r => simpa using h
  | i + 1, 0, [], h => by rw [putS_succ_nil] at h; simp at h
  | i + 1, 0, o :: vs, h => by rw [putS_succ_cons] at h; exact .inr ⟨by omega, by simpa using h⟩
  | i + 1, j + 1, [], h => by
    rw [putS_succ_nil] at h
    rcases putS_get i j [] (by simpa using h) with ⟨a, b⟩ | ⟨a, b⟩
    · exact .inl ⟨by omega, b⟩
    · simp at b
  | i + 1, j + 1, o :: vs, h => by
    rw [putS_succ_cons] at h
    rcases putS_get i j vs (by simpa using h) with ⟨a, b⟩ | ⟨a, b⟩
    · exact .inl ⟨by omega, b⟩
    · exact .inr ⟨by omega, by simpa using b⟩
theorem psc_fld {fa fc : Nat → Addr} {fl : Str} {ix : Nat → Option Nat} {pos' : Pos} {value : Expr} {cv : CE} (T : SlotsAt X.K fc fl ix) (ho : PEc (gl X fa fc) X o co) (hv : PEc (gl X fa fc) X value cv) (hs : swapsWith value (some (.Attribute o fl pos')) pos.line X.env = pure false := by rfl) :
    PSc (gl X fa fc) X (.Assign [.Attribute o fl pos'] value pos) (sFldS ix co cv) := ((SlX.ps_sl ho hv hs).orI (ps_fld ho hv hs)).imp fun D σ H h => by
  obtain ⟨ρ, A, e, r, er, k⟩ := h
  unfold sFldS at k
  cases h1 : cv e A with
  | bad => rw [h1] at k; exact k.elim
  | ok y B =>
    rw [h1] at k
    dsimp only at k
    cases h2 : co e B with
    | bad => rw [h2] at k; exact k.elim
    | ok x B2 =>
      rw [h2] at k
      dsimp only at k
      cases x with
      | ref j =>
        dsimp only at k
        split at k
        · rename_i c fs hA
          cases hi : ix c with
          | none => rw [hi] at k; exact k.elim
          | some i =>
            rw [hi] at k
            rcases T c i hi with ⟨hp', sc, pd, s1⟩ | ⟨hp', hnm, cc, na⟩
            · refine .inl ⟨ρ, A, e, r, er, .nil, y, B, h1, fun ρ1 H1 yv ex1 r1 vy => ⟨ρ1, B, e, r1, er.mono ex1, .nil, _, B2, h2, fun ρ2 H2 xv ex2 r2 vx => ?_⟩⟩
              have ex := ex1.trans r1 ex2
              cases vx with
              | @ref _ p hp =>
              obtain ⟨ne, ⟨od, hd, hnt⟩, vs, q1, q2⟩ := r2.cell j _ p hA hp
              cases q1 with
              | pl hpn => exact absurd hp' hpn
              | sl _ q1 =>
              refine ⟨p.1, fc c, p.2, pd, vs, i, rfl, q1, sc, s1, ?_⟩
              obtain ⟨o1, o2⟩ := onC_of hp
              have exS : Ext ρ2 H2 ρ2 (SlX.slH H2 p.1 (fc c) p.2 (SlX.putS i yv vs)) := ⟨⟨[], by simp⟩, fun a u q n => .inl (by rw [SlX.slH_ne (fun z => n (by rw [z]; exact o1)) (fun z => n (by rw [z]; exact o2))]; exact q)⟩
              have rS : Rel (gl X fa fc) ρ2 (B2.set j (.ins c (setF fs i y))) (SlX.slH H2 p.1 (fc c) p.2 (SlX.putS i yv vs)) :=
                r2.setC hp exS (fun a z1 z2 => SlX.slH_ne z1 z2) ⟨ne, ⟨.xd [], by unfold SlX.slH; rw [upd_ne ne, upd_same], (fun _ z => by cases z), True.intro⟩, SlX.putS i yv vs, .sl hp' (SlX.slH_slt ne), ((q2.set (vy.mono ex2) i).mono exS)⟩
              exact k ρ2 _ σ (ex.trans r2 exS) rS ((er.mono ex).mono exS)
            · refine .inr ⟨ρ, A, e, r, er, .nil, y, B, h1, fun ρ1 H1 yv ex1 r1 vy => ⟨ρ1, B, e, r1, er.mono ex1, .nil, _, B2, h2, fun ρ2 H2 xv ex2 r2 vx => ?_⟩⟩
              have ex := ex1.trans r1 ex2
              cases vx with
              | @ref _ p hp =>
              obtain ⟨ne, ⟨od, hd, hnt⟩, vs, q1, q2⟩ := r2.cell j _ p hA hp
              cases q1 with
              | sl hpn _ => exact absurd hpn hp'
              | @pl fs' _ q1 n m l =>
              have hlen : fs'.length ≤ 5 := by
                have := nodup_le n fun x hx => by
                  obtain ⟨q, hq, rfl⟩ := List.mem_map.mp hx
                  exact m q hq
                rw [List.length_map] at this
                have := plainNm_len c
                omega
              refine ⟨p.1, fc c, p.2, fs', rfl, q1, cc, na, by omega, ?_⟩
              obtain ⟨o1, o2⟩ := onC_of hp
              have exS : Ext ρ2 H2 ρ2 (upd H2 p.1 (.ins (fc c) p.2 (putF fl yv fs'))) := ext_on o1 _
              have hk := putF_keys (f := fl) (v := yv) n
              have rS : Rel (gl X fa fc) ρ2 (B2.set j (.ins c (setF fs i y))) (upd H2 p.1 (.ins (fc c) p.2 (putF fl yv fs'))) :=
                r2.setC hp exS (fun a z1 z2 => upd_ne z1) ⟨ne, ⟨od, by rw [upd_ne ne]; exact hd, hnt⟩, SlX.putS i yv vs, .pl hp' upd_same hk.1 (fun q hq => by
                  rcases hk.2 q hq with e1 | ⟨q', hq', e1⟩
                  · rw [e1]; exact List.mem_of_getElem? hnm
                  · rw [← e1]; exact m q' hq') (fun i' v' hv' => by
                  rcases putS_get i i' vs hv' with ⟨rfl, rfl⟩ | ⟨hne, hv'⟩
                  · exact ⟨fl, hnm, by rw [lookup_putF, if_pos rfl]⟩
                  · obtain ⟨nm, l1, l2⟩ := l i' v' hv'
                    refine ⟨nm, l1, ?_⟩
                    rw [lookup_putF, if_neg (fun z => hne ?_)]
                    · exact l2
                    · subst z
                      obtain ⟨hi1, e1⟩ := List.getElem?_eq_some_iff.mp l1
                      obtain ⟨hi2, e2⟩ := List.getElem?_eq_some_iff.mp hnm
                      exact (List.getElem_inj (plainNm_nodup c)).mp (e1.trans e2.symm)), ((q2.set (vy.mono ex2) i).mono exS)⟩
              exact k ρ2 _ σ (ex.trans r2 exS) rS ((er.mono ex).mono exS)
        · exact k.elim
      | _ => exact k.elim
end
end Ev
namespace Ev
open PySem PyProof.Rows PySem.W
section
variable {prog : Program} {w : World} {A : Around} {E : Value → Shared → Prop} {s : Shared}
theorem collect_tup {l : Addr} {vs : List Value} {Q : List Value → Shared → Prop} (hl : s.heap.IsTuple l vs.toArray)
    (h : Q vs { s with heap := (s.heap.push (seqObj "list" #[] 0)).update s.heap.objs.size (Obj.mapSeq (· ++ vs.toArray)) }) (hsz : vs.length ≤ sizeLine := by size_fits) :
    wpAny (model prog w) A (collect (.ref l)) Q E s := by
  obtain ⟨o, ho, hc, n, hd⟩ := id hl
  unfold collect
  refine wpAny_bind (wpAny_runValue (codeAny_builtin F.entry_proto_collect ?_))
  show wpAny _ _ (do again (.builtin "list.__iadd__" ⟨[← newList [], .ref l], []⟩)) _ _ s
  refine wpAny_bind (wpAny_newList (wpAny_pure ⟨Code.quiet_builtin _ (by decide +kernel), codeAny_builtin F.entry_list_iadd ?_⟩))
  show wpAny _ _ (Builtin.List.listExtendWith (.ref s.heap.objs.size) (.ref l) (.ref s.heap.objs.size)) _ _ { s with heap := s.heap.push (seqObj "list" #[] 0) }
  unfold Builtin.List.listExtendWith
  have ho' : (s.heap.push (seqObj "list" #[] 0)).get? l = some o := Heap.get?_push_of_some _ ho
  refine wpAny_bind (wpAny_typeOf (T := "tuple") ⟨o, ho', hc⟩ ?_)
  have ht : (Value.type "tuple" == Value.type "tuple") = true := by rfl
  rw [if_pos (by rw [ht]; simp)]
  refine wpAny_bind (listItems_at ho' hd ?_)
  refine wpAny_bind (listItems_at (xs := #[]) (n := 0) (Heap.get?_push_size _ rfl) rfl ?_)
  rw [if_neg (by simp)]
  refine wpAny_bind (listUpdate_at (xs := #[]) (n := 0) (Heap.get?_push_size _ rfl) rfl ?_ (Nat.zero_le _) (by show (#[] ++ vs.toArray).size ≤ sizeLine + 1; simp only [Array.size_append, List.size_toArray, List.length_nil]; omega))
  refine wpAny_pure ?_
  show wpAny (model prog w) A (do
      let o ← load s.heap.objs.size
      match o.data with
      | .seq xs _ => pure xs.toList
      | _ => unsupported "internal:collect") Q E { s with heap := (s.heap.push (seqObj "list" #[] 0)).update s.heap.objs.size (Obj.mapSeq (· ++ vs.toArray)) }
  refine wpAny_bind (wpAny_load (get?_update_seq (Heap.get?_push_size _ rfl) _) ?_)
  show wpAny _ _ (pure ((#[] : Array Value) ++ vs.toArray).toList) Q E _
  rw [show ((#[] : Array Value) ++ vs.toArray).toList = vs by simp]
  exact wpAny_pure h
theorem sorted_gen {l : Addr} {vs : List Value} {Q : Value → Shared → Prop} (hl : s.heap.IsList l vs.toArray ∨ s.heap.IsTuple l vs.toArray) (hL : vs.length ≤ sizeLine)
    (body : ∀ E' : Value → Shared → Prop, wpAny (model prog w) A.in1.in1 (Builtin.«list.sort» ⟨[.ref (s.heap.objs.size + 1)], []⟩) (fun f s' => f = .done (.ret .none) ∧ Q (.ref (s.heap.objs.size + 1)) s') E' { s with heap := copyHeap s.heap vs }) :
    wpAny (model prog w) A (call (.builtin "sorted") [.ref l]) Q E s := by
  refine Calls.call_function_entry kind_sorted plain_sorted entry_sorted (args_sorted1 _) ?_
  unfold Builtin.«sorted»
  refine wpAny_bind (m := checkCount "sorted" 1 1 _) (wpAny_pure ?_)
  have go : wpAny (model prog w) A.in1 (collect (.ref l)) (fun a s' => a = vs ∧ s' = { s with heap := (s.heap.push (seqObj "list" #[] 0)).update s.heap.objs.size (Obj.mapSeq (· ++ vs.toArray)) }) E s := by
    rcases hl with hl | hl
    · exact collect_list hl ⟨rfl, rfl⟩ hL
    · exact collect_tup hl ⟨rfl, rfl⟩ hL
  refine wpAny_bind (wpAny_mono go (fun a s' h => ?_) fun _ _ e => e)
  obtain ⟨rfl, rfl⟩ := h
  refine wpAny_bind (wpAny_newList ?_ hL)
  have hsz : ((s.heap.push (seqObj "list" #[] 0)).update s.heap.objs.size (Obj.mapSeq (· ++ a.toArray))).objs.size = s.heap.objs.size + 1 := by
    rw [Heap.size_update, size_push']
  show wpAny _ _ _ _ _ { s with heap := copyHeap s.heap a }
  rw [hsz]
  refine wpAny_bind (wpAny_holding (wpAny_call_entry slot_list_sort ⟨_, copyHeap_at s.heap a, rfl⟩ entry_list_sort ?body (args_list_sort _)))
  case body =>
    show wpAny (model prog w) A.in1.in1 (Builtin.«list.sort» ⟨[.ref (s.heap.objs.size + 1)], []⟩) _ _ _
    refine wpAny_mono (body _) (fun f s' hf => ?_) fun _ _ e => e
    obtain ⟨rfl, hq⟩ := hf
    exact ⟨_, rfl, wpAny_pure ⟨_, rfl, hq⟩⟩
end
end Ev
namespace Ev
open PySem PySem.Spec PyProof.Rows L2
open PySem.W (EachIs AllAlike Sortable dataLe dataLt alike)
/-- sorted(xs): data of one kind -/
def rSrtD (K : PySem.W.Frag) (β : Type) (enc : β → PyData) : List V → Hp → VK → Prop := fun vs H Q => ∃ (a : Addr) (xs : List V) (bs : List β) (R : V → β → Prop), vs = [.ref a] ∧ (SqL K H a xs ∨ SqT K H a xs) ∧ EachIs R xs bs ∧ (∀ x b, R x b → Dp K H x (enc b)) ∧
  AllAlike (bs.map enc) ∧ Sortable (bs.map enc) ∧ (∀ b ∈ bs, (enc b).depth ≤ 60) ∧ ∀ out p, EachIs R out (bs.mergeSort (dataLe false enc)) → H p = none → Q (.ref p) (upd H p (.lst out))
theorem each_vals {K : PySem.W.Frag} {β : Type} {R : V → β → Prop} : ∀ {xs : List V} {us : List Value} {bs : List β}, Vals xs us → EachIs R xs bs → EachIs (fun u b => ∃ x, RelV x u ∧ R x b) us bs
  | _, _, _, .nil, .nil => .nil
  | _, _, _, .cons r t, .cons h q => .cons ⟨_, r, h⟩ (each_vals (K := K) t q)
theorem vals_each {β : Type} {R : V → β → Prop} : ∀ {us : List Value} {bs : List β}, EachIs (fun u b => ∃ x, RelV x u ∧ R x b) us bs → ∃ xs, Vals xs us ∧ EachIs R xs bs
  | _, _, .nil => ⟨[], .nil, .nil⟩
  | _, _, .cons ⟨x, r, h⟩ q => by
    obtain ⟨xs, a, b⟩ := vals_each q
    exact ⟨x :: xs, .cons r a, .cons h b⟩
variable {X : Cx} {G : Gl}
theorem isSeq {pins : List (Addr × Obj)} {σ : L2.St} {H : Hp} {s : Shared} {a : Addr} {xs : List V} (I : Inv X pins σ H s) (h : SqL X.K H a xs ∨ SqT X.K H a xs) : ∃ us, Vals xs us ∧ (s.heap.IsList a us.toArray ∨ s.heap.IsTuple a us.toArray) ∧ us.length ≤ sizeLine := by
  rcases h with h | h
  · obtain ⟨us, r, p, z⟩ := I.list h
    exact ⟨us, r, .inl p.isList, by rw [← r.length]; exact z⟩
  · obtain ⟨us, r, p, z⟩ := I.tuple h
    exact ⟨us, r, .inr p, by rw [← r.length]; exact z⟩
theorem cr_srtD {β : Type} {enc : β → PyData} (hu : X.A.units + 65 < cLine) : CallR X (.builtin "sorted") (rSrtD X.K β enc) := by
  intro pins s σ H vs us Q I r h
  obtain ⟨a, xs, bs, R, rfl, hs, he, hd, hal, hk, hdp, q⟩ := h
  rw [Vals.ref1 r]
  obtain ⟨us, rv, hl, hz⟩ := isSeq I hs
  have e1 := each_vals (K := X.K) rv he
  have hL : bs.length ≤ sizeLine := by rw [← e1.length]; exact hz
  have er : EachIs (fun v b => ∃ as, Reads (PySem.W.sortingHeap (PySem.W.copyHeap s.heap us) (s.heap.objs.size + 1) us) v (enc b) as) us bs := e1.mono fun u b ⟨x, r, h⟩ => by
    obtain ⟨as, q⟩ := Dp.reads I _ _ _ (hd x b h) r
    exact ⟨as, PyProof.Rows.Reads.keeps (fun _ _ => PySem.W.sorting_copy_old) q⟩
  refine sorted_gen hl hz fun E' => PySem.W.list_sort_vals (s := { s with heap := PySem.W.copyHeap s.heap us }) (PySem.W.copyHeap_at s.heap us) (PySem.W.SortsAt.data (s := { s with heap := PySem.W.sortingHeap (PySem.W.copyHeap s.heap us) (s.heap.objs.size + 1) us }) (PySem.W.each_map (R := fun v d => ∃ as, Reads (PySem.W.sortingHeap (PySem.W.copyHeap s.heap us) (s.heap.objs.size + 1) us) v d as) enc er) hal hk ?_) hz ⟨rfl, ?_⟩
  · intro d hd
    obtain ⟨b, hb, rfl⟩ := List.mem_map.mp hd
    have := hdp b hb
    show X.A.units + 1 + 1 + _ < cLine
    omega
  · obtain ⟨out, r2, e2⟩ := vals_each (PySem.W.sortVals_data false e1 er hal)
    obtain ⟨ep, he'⟩ := PyProof.Rows.sortedAll_at s.heap us (PySem.W.sortVals (PySem.W.dataKind (PySem.W.sortingHeap (PySem.W.copyHeap s.heap us) (s.heap.objs.size + 1) us) (bs.map enc)) false us us).toArray
    refine ⟨.ref _, upd H (s.heap.objs.size + 1) (.lst out), I.laid (t' := s.toks) (fun _ _ => PyProof.Rows.sortedAll_old) (Nat.le_succ _) ⟨?_, _, ep, r2, he'⟩, rfl, q _ _ e2 (I.hok.fresh (Nat.le_succ _))⟩
    rw [r2.length, PySem.W.sortVals_length false rfl]
    exact hz
/-- one item, or none -/
def rSrt1 (K : PySem.W.Frag) : List V → Hp → VK → Prop := fun vs H Q => ∃ (a : Addr) (xs : List V), vs = [.ref a] ∧ (SqL K H a xs ∨ SqT K H a xs) ∧ xs.length ≤ 1 ∧ ∀ p, H p = none → Q (.ref p) (upd H p (.lst xs))
theorem one_perm {α : Type} : ∀ {l m : List α}, l.Perm m → m.length ≤ 1 → l = m
  | l, [], h, _ => h.eq_nil
  | l, [x], h, _ => List.perm_singleton.mp h
  | _, _ :: _ :: _, _, h => by simp at h
theorem cr_srt1 : CallR X (.builtin "sorted") (rSrt1 X.K) := by
  intro pins s σ H vs us Q I r h
  obtain ⟨a, xs, rfl, hs, h1, q⟩ := h
  rw [Vals.ref1 r]
  obtain ⟨us, rv, hl, hz⟩ := isSeq I hs
  have hu : us.length ≤ 1 := by rw [← rv.length]; exact h1
  refine sorted_gen hl hz fun E' => SrtO.list_sort_ord (s := { s with heap := PySem.W.copyHeap s.heap us }) SrtO.swo_int (PySem.W.copyHeap_at s.heap us) hz (fun h2 => absurd h2 (by omega)) fun out h1 h2 => ⟨rfl, ?_⟩
  cases one_perm h2.perm hu
  obtain ⟨ep, he'⟩ := PyProof.Rows.sortedAll_at s.heap us us.toArray
  exact ⟨.ref _, upd H (s.heap.objs.size + 1) (.lst xs), I.laid (t' := s.toks) (fun _ _ => PyProof.Rows.sortedAll_old) (Nat.le_succ _) ⟨by rw [rv.length]; exact hz, _, ep, rv, he'⟩, rfl, q _ (I.hok.fresh (Nat.le_succ _))⟩
end Ev
namespace Ev
open PySem PySem.Spec PyProof.Rows L2
open PySem.W (EachIs AllAlike Sortable dataLe dataLt alike)
def insB {α : Type} (le : α → α → Bool) (x : α) : List α → List α
  | [] => [x]
  | y :: r => (match le x y with
    | true => x :: y :: r
    | false => y :: insB le x r)
def srtB {α : Type} (le : α → α → Bool) : List α → List α
  | [] => []
  | x :: r => insB le x (srtB le r)
section
variable {α : Type} {le : α → α → Bool}
theorem insB_perm (x : α) : ∀ l : List α, (insB le x l).Perm (x :: l)
  | [] => List.Perm.refl _
  | y :: r => by
    unfold insB
    split
    · exact List.Perm.refl _
    · exact ((insB_perm x r).cons y).trans (List.Perm.swap x y r)
theorem srtB_perm : ∀ l : List α, (srtB le l).Perm l
  | [] => List.Perm.refl _
  | x :: r => (insB_perm x _).trans ((srtB_perm r).cons x)
theorem insB_sorted (tot : ∀ a b, le a b = false → le b a = true) (tr : ∀ a b c, le a b = true → le b c = true → le a c = true) (x : α) : ∀ l : List α, l.Pairwise (fun a b => le a b = true) → (insB le x l).Pairwise (fun a b => le a b = true)
  | [], _ => List.pairwise_singleton _ _
  | y :: r, h => by
    unfold insB
    cases q : le x y with
    | true =>
      refine List.pairwise_cons.mpr ⟨fun z hz => ?_, h⟩
      rcases List.mem_cons.mp hz with rfl | hz
      · exact q
      · exact tr _ _ _ q ((List.pairwise_cons.mp h).1 z hz)
    | false =>
      refine List.pairwise_cons.mpr ⟨fun z hz => ?_, insB_sorted tot tr x r (List.pairwise_cons.mp h).2⟩
      rcases List.mem_cons.mp ((insB_perm x r).mem_iff.mp hz) with rfl | hz
      · exact tot _ _ q
      · exact (List.pairwise_cons.mp h).1 z hz
theorem srtB_sorted (tot : ∀ a b, le a b = false → le b a = true) (tr : ∀ a b c, le a b = true → le b c = true → le a c = true) : ∀ l : List α, (srtB le l).Pairwise (fun a b => le a b = true)
  | [] => List.Pairwise.nil
  | x :: r => insB_sorted tot tr x _ (srtB_sorted tot tr r)
theorem perm_uniq (anti : ∀ a b, le a b = true → le b a = true → a = b) {l m : List α} (p : l.Perm m) (hl : l.Pairwise (fun a b => le a b = true)) (hm : m.Pairwise (fun a b => le a b = true)) : l = m :=
  List.Perm.eq_of_pairwise (fun a b _ _ => anti a b) hl hm p
theorem ms_srtB (tot : ∀ a b, le a b = false → le b a = true) (tr : ∀ a b c, le a b = true → le b c = true → le a c = true) (anti : ∀ a b, le a b = true → le b a = true → a = b) (l : List α) : l.mergeSort le = srtB le l :=
  perm_uniq anti ((List.mergeSort_perm l le).trans (srtB_perm l).symm) (List.pairwise_mergeSort tr (fun a b => by
    cases h : le a b with
    | true => rfl
    | false => simpa using tot _ _ h) l) (srtB_sorted tot tr l)
end
/-- rows, upwards -/
def rLe : List Int → List Int → Bool
  | [], _ => true
  | _ :: _, [] => false
  | x :: r, y :: t => (match decide (x < y) with
    | true => true
    | false => (match decide (x = y) with
      | true => rLe r t
      | false => false))
theorem rLe_eq : ∀ a b : List Int, rLe a b = decide (a ≤ b)
  | [], b => by simp [rLe]
  | _ :: _, [] => by simp [rLe]
  | x :: r, y :: t => by
    unfold rLe
    by_cases h : x < y
    · have : x :: r ≤ y :: t := List.cons_le_cons_iff.mpr (.inl h)
      simp [h, this]
    · by_cases e : x = y
      · subst e
        simp [rLe_eq r t, List.cons_le_cons_iff]
      · have : ¬ (x :: r ≤ y :: t) := fun z => by
          rcases List.cons_le_cons_iff.mp z with z | z
          · exact h z
          · exact e z.1
        simp [h, e, this]
def iLe (a b : Int) : Bool := decide (a ≤ b)
theorem iLe_srt (l : List Int) : l.mergeSort (dataLe false fun b : Int => .int b) = srtB iLe l := by
  rw [PySem.W.dataLe_int (fun b : Int => b)]
  exact ms_srtB (le := iLe) (fun a b h => decide_eq_true (by have := of_decide_eq_false h; omega)) (fun a b c h1 h2 => decide_eq_true (by have := of_decide_eq_true h1; have := of_decide_eq_true h2; omega)) (fun a b h1 h2 => by have := of_decide_eq_true h1; have := of_decide_eq_true h2; omega) l
def tEnc (l : List Int) : PyData := .tuple (l.map .int)
theorem rLe_srt (l : List (List Int)) : l.mergeSort (dataLe false tEnc) = srtB rLe l := by
  have e : dataLe false tEnc = rLe := by
    funext p q
    rw [rLe_eq]
    show (!dataLt (.tuple (q.map .int)) (.tuple (p.map .int))) = _
    rw [PySem.W.dataLt_tuple]
    show (!PySem.W.rowLt (q.map .int) (p.map .int)) = _
    rw [PySem.W.dataLt_ints]
    by_cases h : q < p
    · have h' : ¬ p ≤ q := fun r => List.not_lt.mpr r h
      simp [h, h']
    · have h' : p ≤ q := List.not_lt.mp h
      simp [h, h']
  rw [e]
  refine ms_srtB (fun a b h => ?_) (fun a b c h1 h2 => ?_) (fun a b h1 h2 => ?_) l
  · rw [rLe_eq] at h ⊢
    exact decide_eq_true ((List.le_total a b).resolve_left (of_decide_eq_false h))
  · rw [rLe_eq] at *
    exact decide_eq_true (List.le_trans (of_decide_eq_true h1) (of_decide_eq_true h2))
  · rw [rLe_eq] at *
    exact List.le_antisymm (of_decide_eq_true h1) (of_decide_eq_true h2)
/-- nonempty tuples of ints -/
def asRow : AV → Option (List Int)
  | .tup (x :: r) => intsOf (x :: r)
  | _ => none
def rowV (l : List Int) : AV := .tup (l.map .int)
def sortA (xs : List AV) : Option (List AV) := match xs with
  | [] => some []
  | [x] => pick (isF x) (some [x]) none
  | xs => (match intsOf xs with
    | some ns => some ((srtB iLe ns).map .int)
    | none => (match optAll asRow xs with
      | some rs => some ((srtB rLe rs).map rowV)
      | none => none))
def vSorted (x : AV) (A : Hs) : R := match seqOf A x with
  | some xs => (match sortA xs with
    | some ys => .ok (.lst ys) A
    | none => .bad)
  | none => .bad
def vSortedM (x : AV) (A : Hs) : R := match seqOf A x with
  | some xs => (match sortA xs with
    | some ys => .ok (.ref A.length) (A ++ [.lst ys])
    | none => .bad)
  | none => .bad
end Ev
namespace Ev
open PySem PySem.Spec PyProof.Rows L2
open PySem.W (EachIs AllAlike Sortable dataLe dataLt alike)
section
variable {X : Cx} {G : Gl} {ρ : Rho} {H : Hp} {A : Hs}
theorem each_ints {t : Bool} : ∀ (ns : List Int), EachIs (fun (x : V) (b : Int) => x = .int b) (ns.map V.int) ns
  | [] => .nil
  | _ :: r => .cons rfl (each_ints (t := t) r)
theorem each_ints' : ∀ {vs : List V} {ns : List Int}, EachIs (fun (x : V) (b : Int) => x = .int b) vs ns → vs = ns.map V.int
  | _, _, .nil => rfl
  | _, _, .cons h q => by rw [h, each_ints' q]; rfl
theorem asRow_ok {x : AV} {l : List Int} (h : asRow x = some l) : x = rowV l ∧ l ≠ [] := by
  unfold asRow at h
  split at h
  · rename_i x r
    have : ∀ {xs : List AV} {ns : List Int}, intsOf xs = some ns → xs = ns.map .int := by
      intro xs
      induction xs with
      | nil => intro ns e; cases e; rfl
      | cons x xs ih =>
        intro ns e
        unfold intsOf optAll at e
        split at e
        · rename_i y h1
          split at e
          · rename_i ys h2
            cases e
            cases x <;> cases h1
            rw [ih h2]; rfl
          · cases e
        · cases e
    have e := this h
    refine ⟨by rw [e]; rfl, fun z => ?_⟩
    rw [z] at e; cases e
  · cases h
theorem rows_each {xs : List AV} {vs : List V} : ∀ {rs : List (List Int)}, VRels G ρ H false xs vs → optAll asRow xs = some rs → EachIs (fun (x : V) (b : List Int) => VRel G ρ H true (rowV b) x ∧ b ≠ []) vs rs := by
  induction xs generalizing vs with
  | nil => intro rs h e; cases h; cases e; exact .nil
  | cons x xs ih =>
    intro rs h e
    cases h with
    | cons h1 h2 =>
      unfold optAll at e
      split at e
      · rename_i y q1
        split at e
        · rename_i ys q2
          cases e
          obtain ⟨rfl, n⟩ := asRow_ok q1
          exact .cons ⟨h1.fz rfl, n⟩ (ih h2 q2)
        · cases e
      · cases e
theorem each_rows : ∀ {rs : List (List Int)} {vs : List V}, EachIs (fun (x : V) (b : List Int) => VRel G ρ H true (rowV b) x ∧ b ≠ []) vs rs → VRels G ρ H true (rs.map rowV) vs
  | _, _, .nil => .nil
  | _, _, .cons h q => .cons h.1 (each_rows q)
theorem dpall_ints : ∀ (l : List Int) {vs : List V}, VRels G ρ H true (l.map AV.int) vs → DpAll G.K H vs (l.map .int)
  | [], _, .nil => .nil
  | _ :: r, _, .cons .int q => .cons (.int _) (dpall_ints r q)
theorem row_dp {l : List Int} {x : V} (h : VRel G ρ H true (rowV l) x) : Dp G.K H x (tEnc l) := by
  cases h with
  | tup f q => exact .tup f.sq (dpall_ints l q)
theorem srt_core {fa fc : Nat → Addr} {x : AV} {v : V} {xs ys : List AV} {Q : VK} (rel : Rel (gl X fa fc) ρ A H) (hv : VRel (gl X fa fc) ρ H false x v) (h1 : seqOf A x = some xs) (h2 : sortA xs = some ys) (k : ∀ vs, VRels (gl X fa fc) ρ H true ys vs → ∀ p, H p = none → Q (.ref p) (upd H p (.lst vs))) :
    (rSrt1 X.K [v] H Q ∨ rSrtD X.K Int (fun b => .int b) [v] H Q) ∨ rSrtD X.K (List Int) tEnc [v] H Q := by
  obtain ⟨a, vs, rfl, hs, vv⟩ := seqOf_ok rel hv h1
  unfold sortA at h2
  split at h2
  · cases h2
    cases vv
    exact .inl (.inl ⟨a, [], rfl, hs, by simp, k [] .nil⟩)
  · rename_i x1
    cases hf : isF x1 with
    | false => rw [hf] at h2; cases h2
    | true =>
      rw [hf] at h2
      cases h2
      have vv' := vv.fz (show allF [x1] = true by simp [allF, hf])
      have hl := vv.length
      exact .inl (.inl ⟨a, vs, rfl, hs, by rw [← hl]; simp, k vs vv'⟩)
  · split at h2
    · rename_i ns e1
      cases h2
      obtain ⟨rfl, _⟩ := intsOf_ok vv e1
      refine .inl (.inr ⟨a, _, ns, fun x b => x = .int b, rfl, hs, each_ints (t := true) ns, fun x b e => by rw [e]; exact .int b, .of (fun _ _ => by first | rfl | simp [alike]), .others (fun b => ⟨fun z => (nomatch z), fun xs z => (nomatch z)⟩), fun b _ => by show (0 : Nat) ≤ 60; omega, fun out p he hp => ?_⟩)
      rw [iLe_srt] at he
      rw [each_ints' he]
      exact k _ VRels.ints p hp
    · split at h2
      · rename_i rs e2
        cases h2
        refine .inr ⟨a, vs, rs, _, rfl, hs, rows_each vv e2, fun x b h => row_dp h.1, .of (fun b b' => by show alike (.tuple _) (.tuple _) = true; unfold alike; exact PySem.W.alike_ints b b'), ?_, fun b _ => ?_, fun out p he hp => ?_⟩
        · refine .inl fun d hd => ?_
          obtain ⟨b, hb, rfl⟩ := List.mem_map.mp hd
          obtain ⟨i, hi⟩ := List.mem_iff_getElem?.mp hb
          have : ∀ {us : List V} {bs : List (List Int)}, EachIs (fun (x : V) (b : List Int) => VRel (gl X fa fc) ρ H true (rowV b) x ∧ b ≠ []) us bs → ∀ b ∈ bs, b ≠ [] := by
            intro us bs e
            induction e with
            | nil => intro b hb; cases hb
            | cons h q ih =>
              intro b hb
              rcases List.mem_cons.mp hb with rfl | hb
              · exact h.2
              · exact ih b hb
          have n := this (rows_each vv e2) b hb
          cases b with
          | nil => exact absurd rfl n
          | cons y r => exact ⟨_, _, rfl⟩
        · show PyData.depth (.tuple _) ≤ 60
          unfold PyData.depth
          rw [PySem.W.depth_ints]
          omega
        · rw [rLe_srt] at he
          exact k _ (each_rows he) p hp
      · cases h2
theorem cv_sorted (fa fc : Nat → Addr) (hu : X.A.units + 65 < cLine) : CallR X (.builtin "sorted") (rAs (gl X fa fc) (on1 vSorted)) :=
  callR1 ((cr_srt1.or (cr_srtD hu)).or (cr_srtD hu)) fun x v H Q ρ A w A' rel hv h k => by
    unfold vSorted at h
    split at h
    · rename_i xs h1
      split at h
      · rename_i ys h2
        cases h
        exact srt_core rel hv h1 h2 fun vs hv => Kon.lst rel k hv
      · cases h
    · cases h
end
end Ev
namespace Ev
open PySem PySem.Spec PyProof.Rows L2
def ddI : List Int → List Int
  | [] => []
  | x :: r => (match r.any (fun y => decide (y = x)) with
    | true => ddI r
    | false => x :: ddI r)
def tLenSet (K : PySem.W.Frag) (ta : TE) : TE := fun σ H Q => ta σ H fun x H1 => ∃ (l : Addr) (ns : List Int), x = V.ref l ∧ (SqL K H1 l (ns.map V.int) ∨ SqT K H1 l (ns.map V.int)) ∧ ns.length ≤ 4000 ∧ Q (.int ((ddI ns).length : Nat)) H1
def vLenSet (x : AV) (A : Hs) : R := match seqOf A x with
  | some xs => (match intsOf xs with
    | some ns => guard' (Nat.ble ns.length 4000) (.ok (.int ((ddI ns).length : Nat)) A)
    | none => .bad)
  | none => .bad
variable {G : Gl} {X : Cx} {a b c e : Expr} {es : List Expr} {ca cb cc ce : CE} {cr : CA} {p p2 q pos : Pos} {σ : L2.St} {H : Hp} {Q : VK} {fa fc : Nat → Addr}
theorem pec_ty {x : Str} {t : Ty} (hg : L2.Gl X x) (hm : X.mg x = none) (hv : bootBuiltins x = some (.type t.nm)) (hn : x ≠ "__name__" := by decide) (hd : (x == ("__debug__" : Str)) = false := by decide) : PEc G X (.Name x pos) (cC (.ty t)) :=
  (pe_bltn (v := .ty t.nm) hg hm hv rfl hn hd).imp fun σ H Q h => tE_const h fun _ _ => .ty
theorem pec_cls {x : Str} {c : Nat} (hg : L2.Gl X x) (hm : X.mg x = some (.ref (G.ca c))) (hd : (x == ("__debug__" : Str)) = false := by decide) : PEc G X (.Name x pos) (cC (.cls c)) := (pe_glob (v := .ref (G.ca c)) hg hm rfl hd).imp fun σ H Q h => tE_const h fun _ _ => .cls
def Ty.sub : Ty → Ty → Bool
  | .non, .non => true
  | .bl, .bl => true
  | .bl, .int => true
  | .int, .int => true
  | .str, .str => true
  | .tup, .tup => true
  | .lst, .lst => true
  | .dct, .dct => true
  | .flt, .flt => true
  | _, _ => false
theorem Ty.sub_ok : ∀ a b : Ty, kitB a.nm b.nm = some (a.sub b) := by
  intro a b
  cases a <;> cases b <;> decide +kernel
def tyA (A : Hs) : AV → Option Ty
  | .non => some .non
  | .bl _ => some .bl
  | .int _ => some .int
  | .str _ => some .str
  | .tup _ => some .tup
  | .mix _ => some .tup
  | .lst _ => some .lst
  | .scr _ => some .lst
  | .dct false _ _ => some .dct
  | .ref i => (match A[i]? with
    | some (.lst _) => some .lst
    | some (.dct false _ _) => some .dct
    | _ => none)
  | _ => none
theorem fzt_ty {K : PySem.W.Frag} {ρ : Rho} {a : Addr} {vs : List V} (h : FzT K ρ H a vs) : TyX K H (.ref a) (.type "tuple") := .base (.tup h.1)
theorem fzl_ty {K : PySem.W.Frag} {ρ : Rho} {a : Addr} {vs : List V} (h : FzL K ρ H a vs) : TyX K H (.ref a) (.type "list") := by
  rcases h with ⟨h, _⟩ | ⟨o, its, n, h, c, _⟩
  · rcases h with h | ⟨o, h⟩
    · exact .base (.lst h)
    · exact .base (.frz h)
  · exact .kList h c
theorem tyA_ok {ρ : Rho} {A : Hs} {x : AV} {v : V} {t : Ty} (r : Rel G ρ A H) (h : VRel G ρ H false x v) (e : tyA A x = some t) : TyX G.K H v (.type t.nm) := by
  cases h with
  | non => cases e; exact .base .non
  | bl => cases e; exact .base (.bl _)
  | int => cases e; exact .base (.int _)
  | str => cases e; exact .base (.str _)
  | tup f q => cases e; exact fzt_ty f
  | mix f q => cases e; exact fzt_ty f
  | lst h n q => cases e; exact .base (.lst h)
  | scr f q => cases e; exact fzl_ty f
  | obj _ _ _ _ _ => cases e
  | dct f n t =>
    cases f with
    | k _ f => cases e; exact f.elim (fun f => .base (.dK f)) fun ⟨_, f⟩ => .fDict f
    | t _ _ => cases e
  | ref hi =>
    unfold tyA at e
    dsimp only at e
    split at e
    · rename_i xs ha
      cases e
      obtain ⟨z, vs, hv, _⟩ := r.cell _ _ _ ha hi
      exact .base (.lst hv)
    · rename_i ks xs ha
      cases e
      obtain ⟨z, vs, hv, _⟩ := r.cell _ _ _ ha hi
      cases hv with
      | k _ f => exact .base (.dK f)
    · cases e
  | fn => cases e
  | ty => cases e
  | cls => cases e
def isiT (t : Ty) : List AV → Option Bool
  | [] => some false
  | .ty u :: r => (match isiT t r with
    | some b => some (t.sub u || b)
    | none => none)
  | _ => none
def vIsi (x y : AV) (A : Hs) : R := match tyA A x with
  | some t => (match y with
    | .ty u => .ok (.bl (t.sub u)) A
    | .tup us => (match isiT t us with
      | some b => .ok (.bl b) A
      | none => .bad)
    | _ => .bad)
  | none => .bad
theorem isiT_ok {K : PySem.W.Frag} {ρ : Rho} {t : Ty} : ∀ {us : List AV} {vs : List V} {b : Bool}, VRels G ρ H true us vs → isiT t us = some b → ∃ ws, Paired ClsV vs ws ∧ PySem.W.kitAny K (.type t.nm) ws = some b
  | _, _, _, .nil, e => by cases e; exact ⟨[], .nil, rfl⟩
  | _, _, _, .cons (.ty (k := u)) q, e => by
    unfold isiT at e
    split at e
    · rename_i b' h
      cases e
      obtain ⟨ws, p, k⟩ := isiT_ok (K := K) q h
      refine ⟨.type u.nm :: ws, .cons (.ty _) p, kitAny_cons (kit_ty (Ty.sub_ok t u)) (fun z => ?_) fun z => ?_⟩
      · rw [z, Bool.false_or]; exact k
      · rw [z, Bool.true_or]
    · cases e
/-- isinstance(x, (T1, ..)) -/
def rIsiS (K : PySem.W.Frag) : List V → Hp → VK → Prop := fun xs H Q => ∃ (x : V) (tp : Addr) (cs : List V) (t : Value) (us : List Value) (b : Bool), xs = [x, .ref tp] ∧ SqT K H tp cs ∧ Paired ClsV cs us ∧ TyX K H x t ∧ PySem.W.kitAny K t us = some b ∧ Q (.bl b) H
theorem call_isiS : CallR X (.builtin "isinstance") (rIsiS X.K) := by
  intro pins s σ H xs us Q I r h
  obtain ⟨x, tp, cs, t, ws, b, rfl, hT, k, ty, e, q⟩ := h
  obtain ⟨u1, u2, rfl, r1, r2⟩ := vals2 r
  cases (show u2 = Value.ref tp from r2)
  obtain ⟨P, Z, p, hx⟩ := kit_of I r1 ty
  obtain ⟨its, rv, ⟨o, h1, h2, n, h3⟩, _⟩ := I.tuple hT
  have e3 := ClsV.all k rv
  subst e3
  obtain ⟨oc, od, dt, sl⟩ := o
  simp only at h2 h3
  subst h2 h3
  exact PySem.W.kia_tup Z I.kIn p h1 e hx fun tk => ⟨.bl b, H, I.tok tk, rfl, q⟩
theorem cv_isi (fa fc : Nat → Addr) : CallR X (.builtin "isinstance") (rAs (gl X fa fc) (on2 vIsi)) := callR2 (call_isi.or call_isiS) fun x y v u H Q ρ A w A' rel hx hy h k => by
  unfold vIsi at h
  split at h
  · rename_i t e
    split at h
    · cases h
      cases hy
      exact .inl ⟨v, _, _, _, _, rfl, .ty _, tyA_ok rel hx e, kit_ty (Ty.sub_ok _ _), kon0 rel k .bl⟩
    · split at h
      · rename_i us b e2
        cases h
        cases hy with
        | tup f q =>
          obtain ⟨ws, p, kk⟩ := isiT_ok (K := X.K) q e2
          exact .inr ⟨v, _, _, _, ws, b, rfl, f.sq, p, tyA_ok rel hx e, kk, kon0 rel k .bl⟩
      · cases h
    · cases h
  · cases h
def cChain (f g : AV → AV → Hs → R) (a b c : CE) : CE := fun e A => (a e A).bind fun x A => (b e A).bind fun y A => (f x y A).bind fun z A => onB z fun k => pick k ((c e A).bind fun w A => g y w A) (.ok (.bl false) A)
theorem tE_chain {f g : AV → AV → Hs → R} (h : tE G (cChain f g ca cb cc) σ H Q) : tChain (rOp G f) (rOp G g) (tE G ca) (tE G cb) (tE G cc) σ H Q := by
  refine (tEh.bind h).imp fun x H1 ⟨u, h⟩ => ?_
  refine (tEh.bind h).toE.imp fun y H2 ⟨v, h⟩ => ?_
  obtain ⟨ρ, A, e, r, er, vr, w, A', hc, k⟩ := h
  obtain ⟨z, B, h1, h2⟩ := R.bind_ok hc
  refine ⟨u, v, ρ, A, r, vr, z, B, h1, fun ρ1 H3 zx ex r1 vz => ?_⟩
  cases vz with
  | bl =>
    rename_i kb
    refine ⟨kb, rfl, ?_⟩
    cases kb with
    | false =>
      cases h2
      exact k ρ1 H3 _ ex r1 .bl
    | true =>
      obtain ⟨w1, B1, h3, h4⟩ := R.bind_ok h2
      refine ⟨ρ1, B, e, r1, er.mono ex, .nil, w1, B1, h3, fun ρ2 H4 wx ex2 r2 vw => ?_⟩
      cases vr with
      | cons hy hr => exact ⟨v, w1, ρ2, B1, r2, .cons vw (.cons ((hy.mono ex).mono ex2) .nil), w, A', h4, fun ρ3 H5 q ex3 r3 vq => k ρ3 H5 q ((ex.trans r1 ex2).trans r2 ex3) r3 vq⟩
  | _ => cases h2
theorem pec_chain {op op' : CmpOp} {f g : AV → AV → Hs → R} (ho : OpR X (compareOp op) (rOp G f)) (ho' : OpR X (compareOp op') (rOp G g)) (ha : PEc G X a ca) (hb : PEc G X b cb) (hc : PEc G X c cc)
    (hm : lastMarks [op, op'] [b, c] = false := by with_unfolding_all rfl) : PEc G X (.Compare a [op, op'] [b, c] pos) (cChain f g ca cb cc) := (pe_chain ho ho' ha hb hc hm).imp fun σ H Q h => tE_chain h
end Ev
namespace Ev
open PySem PySem.Spec PyProof.Rows L2
def cBad : CE := fun _ _ => .bad
def cNu (c : CE) : CE := fun e A => match c e A with
  | .ok v B => (match v with
    | .und => .bad
    | v => .ok v B)
  | .bad => .bad
section
variable {G : Gl} {X : Cx} {a b c e o : Expr} {es : List Expr} {ca cb cc ce co : CE} {cr : CA} {p p1 p2 q pos pos1 apos cpos : Pos} {σ : L2.St} {H : Hp} {Q : VK} {fa fc : Nat → Addr}
theorem pec_never : PEc G X a cBad := ⟨fun pins s σ H Q I h => by
  obtain ⟨ρ, A, e, r, er, vr, w, A', hc, k⟩ := h
  cases hc⟩
theorem nu_of {e : En} {A A' : Hs} {v : AV} (h : cNu ca e A = .ok v A') : ca e A = .ok v A' ∧ v ≠ .und := by
  unfold cNu at h
  split at h
  · rename_i w B hc
    split at h
    · cases h
    · rename_i n
      cases h
      exact ⟨hc, n⟩
  · cases h
theorem pec_nu (h : PEc G X a ca) : PEc G X a (cNu ca) := h.imp fun σ H Q h => by
  obtain ⟨ρ, A, e, r, er, vr, w, A', hc, k⟩ := h
  exact ⟨ρ, A, e, r, er, vr, w, A', (nu_of hc).1, k⟩
theorem poc_e (h : PEc G X a ca) : POc G X (some a) (cNu ca) := poc_some (pec_nu h) fun e A v A' h => (nu_of h).2
theorem args1 (f : AV → Hs → R) (ca : CE) : cArgs (on1 f) (aCons ca aNil) = cUn f ca := by
  funext e A
  unfold cArgs aCons cUn aNil
  cases ca e A <;> rfl
theorem args2 (f : AV → AV → Hs → R) (ca cb : CE) : cArgs (on2 f) (aCons ca (aCons cb aNil)) = cBin f ca cb := by
  funext e A
  unfold cArgs aCons cBin aNil
  cases h : ca e A with
  | bad => rfl
  | ok v B =>
    dsimp only [R.bind]
    cases h2 : aCons cb (fun _ A => .ok [] A) e B with
    | bad =>
      unfold aCons at h2
      cases h3 : cb e B with
      | bad => rfl
      | ok w C => rw [h3] at h2; cases h2
    | ok ws C =>
      unfold aCons at h2
      cases h3 : cb e B with
      | bad => rw [h3] at h2; cases h2
      | ok w C' => rw [h3] at h2; cases h2; rfl
theorem bt_len : bootBuiltins "len" = some (.builtin "len") := by decide +kernel
theorem bt_int : bootBuiltins "int" = some (.type "int") := by decide +kernel
theorem bt_bool : bootBuiltins "bool" = some (.type "bool") := by decide +kernel
theorem bt_list : bootBuiltins "list" = some (.type "list") := by decide +kernel
theorem bt_tuple : bootBuiltins "tuple" = some (.type "tuple") := by decide +kernel
theorem bt_sum : bootBuiltins "sum" = some (.builtin "sum") := by decide +kernel
theorem bt_min : bootBuiltins "min" = some (.builtin "min") := by decide +kernel
theorem bt_sorted : bootBuiltins "sorted" = some (.builtin "sorted") := by decide +kernel
theorem bt_isinstance : bootBuiltins "isinstance" = some (.builtin "isinstance") := by decide +kernel
theorem pec_b1 {x : Str} {id : String} {f : AV → Hs → R} (hc : CallR X (.builtin id) (rAs G (on1 f))) (hv : bootBuiltins x = some (.builtin id)) (hm : X.mg x = none) (ha : PEc G X a ca) (hg : L2.Gl X x := by rfl) (hn : x ≠ "__name__" := by decide) (hdb : (x == ("__debug__" : Str)) = false := by decide)
    (he : starEach [a] X.env = (false, eval a X.env) :: starEach [] X.env := by rfl) : PEc G X (.Call (.Name x p) [a] [] pos) (cUn f ca) := by
  rw [← args1]
  exact pec_callB hc hg hm hv (pac_cons ha pac_nil he) hn hdb he rfl
theorem pec_t1 {x : Str} {T : String} {f : AV → Hs → R} (hc : CallR X (.type T) (rAs G (on1 f))) (hv : bootBuiltins x = some (.type T)) (hm : X.mg x = none) (ha : PEc G X a ca) (hg : L2.Gl X x := by rfl) (hn : x ≠ "__name__" := by decide) (hdb : (x == ("__debug__" : Str)) = false := by decide)
    (he : starEach [a] X.env = (false, eval a X.env) :: starEach [] X.env := by rfl) : PEc G X (.Call (.Name x p) [a] [] pos) (cUn f ca) := by
  rw [← args1]
  exact pec_callTy hc hg hm hv (pac_cons ha pac_nil he) hn hdb he rfl
theorem pec_b2 {x : Str} {id : String} {f : AV → AV → Hs → R} (hc : CallR X (.builtin id) (rAs G (on2 f))) (hv : bootBuiltins x = some (.builtin id)) (hm : X.mg x = none) (ha : PEc G X a ca) (hb : PEc G X b cb) (hg : L2.Gl X x := by rfl) (hn : x ≠ "__name__" := by decide) (hdb : (x == ("__debug__" : Str)) = false := by decide)
    (he : starEach [a, b] X.env = (false, eval a X.env) :: starEach [b] X.env := by rfl) (he2 : starEach [b] X.env = (false, eval b X.env) :: starEach [] X.env := by rfl) (hpl : (backTo pos (starEach [b] X.env)).any (·.1) = false := by rfl) : PEc G X (.Call (.Name x p) [a, b] [] pos) (cBin f ca cb) := by
  rw [← args2]
  exact pec_callB hc hg hm hv (pac_cons ha (pac_cons hb pac_nil he2) he) hn hdb he hpl
end
theorem fn_ok0 {P : Program} {w : World} {mg : Str → Option Value} {base : Heap} {G : Gl} {F : Nat → Option FnC} {f : Nat} {fd : FuncData} {ps : List Str} {k : Nat} {a : Addr} : FnOk P w G.K mg base CX0 k a fd ps (spF G (callF F 0) f) :=
  ⟨fun vs H Q E h => (by obtain ⟨_, _, _, _, _, _, _, h, _⟩ := h; cases h), fun A outer s H args us vs Q E _ _ _ _ h => (by obtain ⟨_, _, _, _, _, _, _, h, _⟩ := h; cases h)⟩
end Ev
namespace Ev
open PySem PySem.Spec PyProof.Rows L2
theorem _root_.L2.Room.units65 {k : Nat} {A : Around} (r : Room k A) : A.units + 65 < cLine := by have := r.un; omega
theorem fn_none {P : Program} {w : World} {mg : Str → Option Value} {base : Heap} {G : Gl} {F : Nat → Option FnC} {f n : Nat} {fd : FuncData} {ps : List Str} {k : Nat} {a : Addr} (h : F f = none) : FnOk P w G.K mg base CX0 k a fd ps (spF G (callF F (n + 1)) f) := by
  have no : ∀ us A w A', callF F (n + 1) f us A = .ok w A' → False := fun us A w A' q => by
    unfold callF at q
    rw [h] at q
    cases q
  exact ⟨fun vs H Q E h => (by obtain ⟨_, _, _, _, _, _, _, h, _⟩ := h; exact (no _ _ _ _ h).elim), fun A outer s H args us vs Q E _ _ _ _ h => (by obtain ⟨_, _, _, _, _, _, _, h, _⟩ := h; exact (no _ _ _ _ h).elim)⟩
variable {X : Cx} {G : Gl}
def vAddI : AV → AV → Hs → R := on2I fun i j A => .ok (.int (i + j)) A
theorem ip_add : OpR X (inplaceOp .Add) (rOp G vAddI) := op2I iop_add fun i j H Q ρ A w A' r e k => by cases e; exact ⟨i, j, rfl, rfl, kon0 r k .int⟩
def sPar (is : List Nat) (a : CA) : CS := fun e A => match a e A with
  | .ok vs A => (match is, vs with
    | [i, j], [v, w] => .nx ((e.set i v).set j w) A
    | [i, j, k], [u, v, w] => .nx (((e.set i u).set j v).set k w) A
    | _, _ => .bad)
  | .bad => .bad
section
variable {i j l : Nat} {x y z : Str} {a b c : Expr} {ca : CA} {px py pz pt pos : Pos} {kt k2 : Nat} {pt2 : Pos}
theorem psc_par {kt k2} (hN : X.N.Nodup) (ha : PAc G X [a, b] ca) (hi : X.N[i]? = some x := by rfl) (hj : X.N[j]? = some y := by rfl) (hij : i ≠ j := by decide)
    (hx : X.env.scope.names.lookup x = some .local := by rfl) (hy : X.env.scope.names.lookup y = some .local := by rfl)
    (hw : swappedStores [.Tuple [.Name x px, .Name y py] kt pt] (.Tuple [a, b] k2 pt2) X.env = pure (some [x, y]) := by rfl)
    (hs : swapsWithSole [.Tuple [.Name x px, .Name y py] kt pt] (.Tuple [a, b] k2 pt2) pos.line X.env = pure false := by rfl) (hc : X.calm = true := by rfl) :
    PSc G X (.Assign [.Tuple [.Name x px, .Name y py] kt pt] (.Tuple [a, b] k2 pt2) pos) (sPar [i, j] ca) := (ps_par hc hN hi hj hij hx hy ha hw hs).imp fun D σ H h => by
  obtain ⟨ρ, A, e, r, er, k⟩ := h
  unfold sPar at k
  cases h1 : ca e A with
  | bad => rw [h1] at k; exact k.elim
  | ok vs B =>
    rw [h1] at k
    dsimp only at k
    refine ⟨ρ, A, e, r, er, .nil, vs, B, h1, fun ρ1 H1 ys ex r1 vy => ?_⟩
    match vs, vy, k with
    | [v, w], .cons hv (.cons hw .nil), k => exact ⟨_, _, rfl, k ρ1 H1 _ ex r1 (((er.mono ex).set hv i).set hw j)⟩
theorem psc_par3 {kt k2} (hN : X.N.Nodup) (ha : PAc G X [a, b, c] ca) (hi : X.N[i]? = some x := by rfl) (hj : X.N[j]? = some y := by rfl) (hl : X.N[l]? = some z := by rfl) (hij : i ≠ j := by decide) (hil : i ≠ l := by decide) (hjl : j ≠ l := by decide)
    (hx : X.env.scope.names.lookup x = some .local := by rfl) (hy : X.env.scope.names.lookup y = some .local := by rfl) (hz : X.env.scope.names.lookup z = some .local := by rfl)
    (hw : swappedStores [.Tuple [.Name x px, .Name y py, .Name z pz] kt pt] (.Tuple [a, b, c] k2 pt2) X.env = pure (some [x, y, z]) := by rfl)
    (hs : swapsWithSole [.Tuple [.Name x px, .Name y py, .Name z pz] kt pt] (.Tuple [a, b, c] k2 pt2) pos.line X.env = pure false := by rfl) (hc : X.calm = true := by rfl) :
    PSc G X (.Assign [.Tuple [.Name x px, .Name y py, .Name z pz] kt pt] (.Tuple [a, b, c] k2 pt2) pos) (sPar [i, j, l] ca) := (ps_par3 hc hN hi hj hl hij hil hjl hx hy hz ha hw hs).imp fun D σ H h => by
  obtain ⟨ρ, A, e, r, er, k⟩ := h
  unfold sPar at k
  cases h1 : ca e A with
  | bad => rw [h1] at k; exact k.elim
  | ok vs B =>
    rw [h1] at k
    dsimp only at k
    refine ⟨ρ, A, e, r, er, .nil, vs, B, h1, fun ρ1 H1 ys ex r1 vy => ?_⟩
    match vs, vy, k with
    | [u, v, w], .cons hu (.cons hv (.cons hw .nil)), k => exact ⟨_, _, _, rfl, k ρ1 H1 _ ex r1 ((((er.mono ex).set hu i).set hv j).set hw l)⟩
end
end Ev
namespace Ev
open PySem PySem.Spec PyProof.Rows L2
theorem rel0 {G : Gl} {H : Hp} : Rel G ⟨[], []⟩ [] H := ⟨rfl, List.Pairwise.nil, fun i c p h => by simp at h, fun a h => by cases h⟩
end Ev
namespace Ev
open PySem PySem.Spec PyProof.Rows L2
/-- a body, by an open code that is then seen to be the printed one -/
theorem code_of {G : Gl} {X : Cx} {b : List Stmt} {c c' : CS} (h : PSsc G X b c) (e : c = c') : PSsc G X b c' := e ▸ h
end Ev
namespace Ev
open PySem PySem.Spec PyProof.Rows L2
theorem _root_.L2.PE.ex {X : Cx} {e : Expr} {ι : Type} {P : ι → Prop} {t : ι → TE} (h : ∀ i, P i → PE X e (t i)) : PE X e (fun σ H Q => ∃ i, P i ∧ t i σ H Q) :=
  ⟨fun pins s σ H Q I ⟨i, p, q⟩ => (h i p).run pins s σ H Q I q⟩
/-- o.m, m a def of the class, no variable -/
theorem getmeth_ok {X : Cx} {pins : List (Addr × Obj)} {σ : L2.St} {H : Hp} {s : Shared} {a C dx g : Addr} {c : Nat} {vs : List (Option V)} {m : Str} {A : Around} {E : Value → Shared → Prop} {pl : Sem Bool} {Q : Value × List Value → Shared → Prop} (I : Inv X pins σ H s) (h : InsH H C c a dx vs) (cc : SlX.SCls X.K C) (nv : m ∉ plainNm c) (k : Meth X.K C m g) (q : Q (.ref g, [.ref a]) s) :
    wpAny (model X.prog X.w) A (getMethod (.ref a) m pl) Q E s := by
  obtain ⟨o, od, J, hl⟩ := ins_inst I h
  refine PySem.W.method_fn I.kIn J (PySem.W.plainGet_of (cc.get m)).1 (PySem.W.plainGet_of (cc.get m)).2 k.at_ (beq_iff_eq.mp k.fn) ?_ q
  show (PySem.W.lookIn m od).map (·.isSome) = some false
  rw [hl m nv]
  rfl
def tMethI (C : Addr) (c : Nat) (sp : Sp) (E : XK) (ta : TE) (t : TA) : TE := fun σ H Q => ta σ H fun x H1 => ∃ a dx vs, x = .ref a ∧ InsH H1 C c a dx vs ∧ t σ H1 fun ws H2 => sp (x :: ws) H2 Q E
theorem pe_methI {X : Cx} {o e : Expr} {es : List Expr} {m : Str} {pos apos : Pos} {ta : TE} {t : TA} {CX : CXT} {k c : Nat} {C g : Addr} {sp : Sp} {E : XK} {pl : Sem Bool} (he : PE X o ta) (cc : SlX.SCls X.K C) (nv : m ∉ plainNm c) (hm : Meth X.K C m g) (F : FnR X.prog X.w X.K X.mg X.base CX k g sp) (hr : Room k X.A) (hx : Passes CX X E) (ha : PA X (e :: es) t)
    (hst : starEach (e :: es) X.env = (false, eval e X.env) :: starEach es X.env := by rfl) (hpl : (backTo pos (starEach es X.env)).any (·.1) = false := by rfl)
    (ht : eval (.Call (.Attribute o m apos) (e :: es) [] pos) X.env = (do
      let ov ← eval o X.env
      standAt apos.atName
      let (f, first) ← holding [ov] (getMethod ov m pl)
      callWith pos f first (backTo pos (starEach (e :: es) X.env)) (backToKw pos (keywordEach [] X.env))) := by rfl) :
    PE X (.Call (.Attribute o m apos) (e :: es) [] pos) (tMethI C c sp E ta t) := by
  refine ⟨fun pins s σ H Q I h => ?_⟩
  refine PySem.W.methodCall_KW (pl := pl) (thn (he.run pins s σ H _ I h) fun u s1 ⟨x, H1, I1, rx, a, dx, vs, ex, hsl, q⟩ => ?_) ht
  subst ex
  obtain rfl : u = Value.ref a := rx
  refine getmeth_ok I1 hsl cc nv hm ?_
  refine PySem.W.callWith_K (first := [.ref a]) (h₀ := X.base) I.ok.mod.kin hm.kp (thn (ha.run pos pins s1 σ H1 _ I1 q) fun us s2 ⟨ws, H2, I2, r, q2⟩ => ⟨I2.kIn, ?_⟩) hst hpl
  exact wpAny_call (run_fnR (us := .ref a :: us) (vs := .ref a :: ws) F hr hx I2 (.cons rfl r) q2)
theorem pe_methI0 {X : Cx} {o : Expr} {m : Str} {pos apos : Pos} {ta : TE} {CX : CXT} {k c : Nat} {C g : Addr} {sp : Sp} {E : XK} {pl : Sem Bool} (he : PE X o ta) (cc : SlX.SCls X.K C) (nv : m ∉ plainNm c) (hm : Meth X.K C m g) (F : FnR X.prog X.w X.K X.mg X.base CX k g sp) (hr : Room k X.A) (hx : Passes CX X E)
    (ht : eval (.Call (.Attribute o m apos) [] [] pos) X.env = (do
      let ov ← eval o X.env
      standAt apos.atName
      let (f, first) ← holding [ov] (getMethod ov m pl)
      callWith pos f first (backTo pos (starEach [] X.env)) (backToKw pos (keywordEach [] X.env))) := by rfl) :
    PE X (.Call (.Attribute o m apos) [] [] pos) (tMethI C c sp E ta tNil) := by
  refine ⟨fun pins s σ H Q I h => ?_⟩
  refine PySem.W.methodCall_KW (pl := pl) (thn (he.run pins s σ H _ I h) fun u s1 ⟨x, H1, I1, rx, a, dx, vs, ex, hsl, q⟩ => ?_) ht
  subst ex
  obtain rfl : u = Value.ref a := rx
  refine getmeth_ok I1 hsl cc nv hm ?_
  exact PySem.W.callWith_K0 (first := [.ref a]) I1.kIn hm.kp (wpAny_call (run_fnR (us := [.ref a]) (vs := [.ref a]) F hr hx I1 (.cons rfl .nil) q))
/-- what a table of methods needs: class c has the def f by that name, di: defaults that are left out -/
structure MtOk (X : Cx) (fa fc : Nat → Addr) (fds : Nat → FuncData) (PS : Nat → List Str) (call : CallT) (k : Nat) (m : Str) (c f : Nat) (di : List Int) : Prop where
  cl : SlX.SCls X.K (fc c)
  nv : m ∉ plainNm c
  me : Meth X.K (fc c) m (fa f)
  ok : FnOk X.prog X.w X.K X.mg X.base CX0 k (fa f) (fds f) (PS f) (spF (gl X fa fc) call f)
  bi : ∃ ds, Binds X.K (fds f) (PS f) ds ∧ Vals (dV di) ds
  fi : PySem.W.fnIn X.K (fa f) = true
def cMeth (call : CallT) (mt : Nat → Option (Nat × List Int)) (o : CE) (args : CA) : CE := fun e A => match o e A with
  | .ok x A => (match insOf A x with
    | some (c, _) => (match mt c with
      | some (f, di) => (match args e A with
        | .ok xs A => call f ((x :: xs) ++ dA di) A
        | .bad => .bad)
      | none => .bad)
    | none => .bad)
  | .bad => .bad
section
variable {X : Cx} {fa fc : Nat → Addr} {fds : Nat → FuncData} {PS : Nat → List Str} {call : CallT} {k : Nat} {m : Str} {mt : Nat → Option (Nat × List Int)} {o e : Expr} {es : List Expr} {co ca cb : CE} {cr : CA} {pos apos : Pos} {σ : L2.St} {H : Hp} {Q : VK}
theorem meth_core (h : tE (gl X fa fc) (cMeth call mt co cr) σ H Q) : ∃ i : Nat × Nat × List Int, mt i.1 = some i.2 ∧ tMethI (fc i.1) i.1 (fun vs H Q E => spF (gl X fa fc) call i.2.1 (vs ++ dV i.2.2) H Q E) E0 (tE (gl X fa fc) co) (tA (gl X fa fc) cr) σ H Q := by
  obtain ⟨ρ, A, e, r, er, vr, w, A', hc, q⟩ := h
  unfold cMeth at hc
  cases h1 : co e A with
  | bad => rw [h1] at hc; cases hc
  | ok x B =>
    rw [h1] at hc
    dsimp only at hc
    split at hc
    · rename_i c fs e1
      split at hc
      · rename_i f di e2
        split at hc
        · rename_i xs B2 e3
          refine ⟨(c, f, di), e2, ρ, A, e, r, er, .nil, x, B, h1, fun ρ1 H1 xv ex r1 vx => ?_⟩
          obtain ⟨a, dx, vs, rfl, s, t⟩ := insOf_ok r1 vx e1
          refine ⟨a, dx, vs, rfl, s, ρ1, B, e, r1, er.mono ex, .nil, xs, B2, e3, fun ρ2 H2 ys ex2 r2 vy => ?_⟩
          exact ⟨ρ2, B2, (x :: xs) ++ dA di, r2, (VRels.cons (vx.mono ex2) vy).append VRels.ints, w, A', hc, fun ρ3 H3 z ex3 r3 v3 => q ρ3 H3 z ((ex.trans r1 ex2).trans r2 ex3) r3 v3⟩
        · cases hc
      · cases hc
    · cases hc
theorem pec_meth {pl : Sem Bool} (T : ∀ c f di, mt c = some (f, di) → MtOk X fa fc fds PS call k m c f di) (hr : Room k X.A) (ho : PEc (gl X fa fc) X o co) (ha : PAc (gl X fa fc) X (e :: es) cr)
    (hst : starEach (e :: es) X.env = (false, eval e X.env) :: starEach es X.env := by rfl) (hpl : (backTo pos (starEach es X.env)).any (·.1) = false := by rfl)
    (ht : eval (.Call (.Attribute o m apos) (e :: es) [] pos) X.env = (do
      let ov ← eval o X.env
      standAt apos.atName
      let (f, first) ← holding [ov] (getMethod ov m pl)
      callWith pos f first (backTo pos (starEach (e :: es) X.env)) (backToKw pos (keywordEach [] X.env))) := by rfl) :
    PEc (gl X fa fc) X (.Call (.Attribute o m apos) (e :: es) [] pos) (cMeth call mt co cr) :=
  (PE.ex (P := fun i : Nat × Nat × List Int => mt i.1 = some i.2) fun i hi => by
    have t := T i.1 i.2.1 i.2.2 hi
    obtain ⟨ds, hb, hd⟩ := t.bi
    exact pe_methI (pl := pl) ho t.cl t.nv t.me (t.ok.raw hb hd) hr pass0 ha hst hpl ht).imp fun σ H Q h => meth_core h
theorem pec_meth0 {pl : Sem Bool} (T : ∀ c f di, mt c = some (f, di) → MtOk X fa fc fds PS call k m c f di) (hr : Room k X.A) (ho : PEc (gl X fa fc) X o co)
    (ht : eval (.Call (.Attribute o m apos) [] [] pos) X.env = (do
      let ov ← eval o X.env
      standAt apos.atName
      let (f, first) ← holding [ov] (getMethod ov m pl)
      callWith pos f first (backTo pos (starEach [] X.env)) (backToKw pos (keywordEach [] X.env))) := by rfl) :
    PEc (gl X fa fc) X (.Call (.Attribute o m apos) [] [] pos) (cMeth call mt co aNil) :=
  (PE.ex (P := fun i : Nat × Nat × List Int => mt i.1 = some i.2) fun i hi => by
    have t := T i.1 i.2.1 i.2.2 hi
    obtain ⟨ds, hb, hd⟩ := t.bi
    exact pe_methI0 (pl := pl) ho t.cl t.nv t.me (t.ok.raw hb hd) hr pass0 ht).imp fun σ H Q h => by
    obtain ⟨i, hi, h⟩ := meth_core h
    refine ⟨i, hi, h.imp fun x H1 ⟨a, dx, vs, e1, s, q⟩ => ⟨a, dx, vs, e1, s, ?_⟩⟩
    obtain ⟨ρ, A, e, r, er, vr, ws, A', hc, q⟩ := q
    cases hc
    exact q ρ H1 [] (Ext.refl _ _) r .nil
end
end Ev
namespace Ev
open PySem PySem.Spec PyProof.Rows L2
/-- an own def f at these values -/
def ownC (call : CallT) (mt : Nat → Option Nat) (A : Hs) (x : AV) (xs : List AV) (els : R) (k : AV → Hs → R) : R := match insOf A x with
  | some (c, _) => (match mt c with
    | some f => (match call f (x :: xs) A with
      | .ok z B => k z B
      | .bad => .bad)
    | none => .bad)
  | none => els
def onBl (k : Bool → Hs → R) (z : AV) (B : Hs) : R := match z with
  | .bl b => k b B
  | _ => .bad
def vInO (call : CallT) (mt : Nat → Option Nat) (x y : AV) (A : Hs) : R := ownC call mt A y [x] (vIn x y A) (onBl fun b B => .ok (.bl b) B)
def vNotInO (call : CallT) (mt : Nat → Option Nat) (x y : AV) (A : Hs) : R := ownC call mt A y [x] (vNotIn x y A) (onBl fun b B => .ok (.bl !b) B)
def vLenO (call : CallT) (mt : Nat → Option Nat) (x : AV) (A : Hs) : R := ownC call mt A x [] (vLen x A) fun z B => match z with
  | .int n => guard' (decide (0 ≤ n) && decide (n < 9223372036854775808)) (.ok (.int n) B)
  | _ => .bad
def vIxO (call : CallT) (mt : Nat → Option Nat) (x y : AV) (A : Hs) : R := ownC call mt A x [y] (vIx x y A) fun z B => .ok z B
section
variable {X : Cx} {fa fc : Nat → Addr} {fds : Nat → FuncData} {PS : Nat → List Str} {call : CallT} {k : Nat} {m : Str} {mt : Nat → Option Nat} {a b o e : Expr} {es : List Expr} {co ca cb : CE} {cr : CA} {pos apos p : Pos} {σ : L2.St} {H : Hp} {Q : VK}
theorem onBl_ok {k : Bool → Hs → R} {z w : AV} {B A' : Hs} (h : onBl k z B = .ok w A') : ∃ b, z = .bl b ∧ k b B = .ok w A' := by
  unfold onBl at h
  split at h
  · exact ⟨_, rfl, h⟩
  · cases h
/-- which road it takes -/
theorem ownC_ok {ρ : Rho} {A A' : Hs} {x w : AV} {xv : V} {xs : List AV} {els : R} {kk : AV → Hs → R} (rel : Rel (gl X fa fc) ρ A H) (hx : VRel (gl X fa fc) ρ H false x xv) (h : ownC call mt A x xs els kk = .ok w A') :
    els = .ok w A' ∨ ∃ c f p dx vs z B, mt c = some f ∧ xv = .ref p ∧ InsH H (fc c) c p dx vs ∧ call f (x :: xs) A = .ok z B ∧ kk z B = .ok w A' := by
  unfold ownC at h
  split at h
  · rename_i c fs e1
    split at h
    · rename_i f e2
      split at h
      · rename_i z B e3
        obtain ⟨p, dx, vs, rfl, s, _⟩ := insOf_ok rel hx e1
        exact .inr ⟨c, f, p, dx, vs, z, B, e2, rfl, s, e3, h⟩
      · cases h
    · cases h
  · exact .inl h
theorem MtOk.run {pins : List (Addr × Obj)} {s : Shared} {c f : Nat} {A : Around} {us : List Value} {vs : List V} (t : MtOk X fa fc fds PS call k m c f []) (hr : Room k A) (e0 : Env0 X.prog X.w X.K X.mg X.base A X.stack s H) (I : Inv X pins σ H s) (r : Vals vs us) (h : spF (gl X fa fc) call f vs H Q E0) :
    wpAny (model X.prog X.w) A (PySem.call (.ref (fa f)) us) (EP X pins σ Q) X.xe s := by
  obtain ⟨ds, hb, hd⟩ := t.bi
  refine wpAny_call (SlX.run_at (t.ok.raw hb hd) hr e0 pass0 I r ?_)
  show spF (gl X fa fc) call f (vs ++ dV []) H Q E0
  rw [show vs ++ dV [] = vs from List.append_nil vs]
  exact h
theorem ov_notInO (hu : X.A.units + 65 < cLine) (T : ∀ c f, mt c = some f → MtOk X fa fc fds PS call k "__contains__" c f []) (hr : Room k X.A) : OpR X (compareOp .NotIn) (rOp (gl X fa fc) (vNotInO call mt)) := by
  rintro pins s σ H x y v u Q I rx ry ⟨xa, ya, ρ, A, rel, vr, w, A', hf, kk⟩
  obtain ⟨hx, hy⟩ := two vr
  rcases ownC_ok rel hy hf with hf | ⟨c, f, p, dx, vs, z, B, e1, rfl, sl, e2, e3⟩
  · exact ov_notIn fa fc hu pins s σ H x y v u Q I rx ry ⟨xa, ya, ρ, A, rel, vr, w, A', hf, kk⟩
  · have t := T c f e1
    cases (show u = Value.ref p from ry)
    obtain ⟨b, rfl, e3⟩ := onBl_ok e3
    cases e3
    obtain ⟨_, od, J, _⟩ := ins_inst I sl
    obtain ⟨m', hF⟩ := I.fr
    refine PySem.W.notIn_K hF I.ok.mod.kin J t.me.at_ t.me.fn (wpAny_mono (t.run (vs := [.ref p, x]) (Q := fun z H' => ∃ b, z = .bl b ∧ Q (.bl !b) H') hr I.env0 I (.cons rfl (.cons rx .nil)) ⟨ρ, A, _, rel, .cons hy (.cons hx .nil), _, _, e2, fun ρ1 H1 q ex r1 vq => ?_⟩) (fun r s' z => ?_) fun _ _ x => x)
    · cases vq
      exact ⟨b, rfl, kk ρ1 H1 _ ex r1 .bl⟩
    · obtain ⟨z', H', I', rz, b', e, qz⟩ := z
      subst e
      cases rz
      exact wpAny_truthy_bool ⟨.bl !b', H', I', rfl, qz⟩
theorem cv_lenO (T : ∀ c f, mt c = some f → MtOk X fa fc fds PS call k "__len__" c f []) (hr : Room (k + 1) X.A) : CallR X (.builtin "len") (rAs (gl X fa fc) (on1 (vLenO call mt))) := by
  rintro pins s σ H xs us Q I r ⟨ws, ρ, A, rel, vr, w, A', hf, kk⟩
  obtain ⟨x, rfl, hf⟩ := on1_ok hf
  obtain ⟨xv, rfl, hx⟩ := vr.one'
  rcases ownC_ok rel hx hf with hf | ⟨c, f, p, dx, vs, z, B, e1, rfl, sl, e2, e3⟩
  · exact cv_len fa fc pins s σ H [xv] us Q I r ⟨[x], ρ, A, rel, .cons hx .nil, w, A', hf, kk⟩
  · have t := T c f e1
    rw [Vals.ref1 r]
    obtain ⟨_, od, J, _⟩ := ins_inst I sl
    obtain ⟨m', hF⟩ := I.fr
    split at e3
    · rename_i n
      obtain ⟨g, e3⟩ := guard_ok e3
      cases e3
      simp only [Bool.and_eq_true, decide_eq_true_eq] at g
      refine PySem.W.len_K hF I.ok.mod.kin J t.me.at_ t.me.fn (wpAny_mono (t.run (vs := [.ref p]) (Q := fun z H' => z = .int n ∧ Q (.int n) H') hr.in1 I.env0.in1 I (.cons rfl .nil) ⟨ρ, A, _, rel, .cons hx .nil, _, _, e2, fun ρ1 H1 q ex r1 vq => ?_⟩) (fun r s' z => ?_) fun _ _ x => x)
      · cases vq
        exact ⟨rfl, kk ρ1 H1 _ ex r1 .int⟩
      · obtain ⟨z', H', I', rz, e, qz⟩ := z
        subst e
        obtain ⟨tk, rfl⟩ := (show ∃ t, r = Value.int n t from rz)
        exact ⟨⟨g.1, by omega⟩, .int n, H', I'.tok _, ⟨_, rfl⟩, qz⟩
    · cases e3
theorem pec_ixO (T : ∀ c f, mt c = some f → MtOk X fa fc fds PS call k "__getitem__" c f []) (hr : Room (k + 1) X.A) (ha : PEc (gl X fa fc) X a ca) (hb : PEc (gl X fa fc) X b cb) (hs : PlainIx b := by intro _ _; rfl)
    (hs2 : ∀ o i, subscripted b true o i = runValue (.builtin "lifetime.subscript" ⟨[o, i], []⟩) := by intro _ _; with_unfolding_all rfl) : PEc (gl X fa fc) X (.Subscript a b pos) (cBin (vIxO call mt) ca cb) := by
  refine ⟨fun pins s σ H Q I h => ?_⟩
  refine Subscript_ (binT ha hb I (tE_bin h) fun v u s2 x y H2 I2 rx ry q => ?_)
  obtain ⟨xa, ya, ρ, A, rel, vr, w, A', hf, kk⟩ := q
  obtain ⟨hx, hy⟩ := two vr
  rcases ownC_ok rel hx hf with hf | ⟨c, f, p, dx, vs, z, B, e1, rfl, sl, e2, e3⟩
  · exact iv_ix fa fc a b pins s2 σ H2 x y v u Q I2 rx ry ⟨xa, ya, ρ, A, rel, vr, w, A', hf, kk⟩ (hs _ _)
  · have t := T c f e1
    cases (show v = Value.ref p from rx)
    cases e3
    obtain ⟨_, od, J, _⟩ := ins_inst I2 sl
    obtain ⟨m', hF⟩ := I2.fr
    exact PySem.W.sub_K hF I2.ok.mod.kin J t.me.at_ t.fi t.me.fn (t.run (vs := [.ref p, y]) hr.in1 I2.env0.in1 I2 (.cons rfl (.cons ry .nil)) ⟨ρ, A, _, rel, .cons hx (.cons hy .nil), _, _, e2, kk⟩) (hs2 _ _)
end
end Ev
namespace Ev
open PySem PyProof.Rows PySem.W
section
variable {prog : Program} {w : World} {A : Around} {E : Value → Shared → Prop} {s : Shared} {K : Frag} {x C f : Addr} {ox : Obj} {od : Option Obj} {b : Value}
theorem ne_body {Q : PySem.Fin → Shared → Prop} (KX : K.In s.heap) (J : InstAt s.heap x ox C od) (hs : findIn K (.ref C) "__eq__" = some (some (.ref f))) (hf : isFn K (.ref f) = true) (hu : A.units < cLine)
    (hc : wpAny (model prog w) A (call (.ref f) [.ref x, b]) (fun v s' => ∃ t, v = .bool t ∧ Q (.done (.ret (.bool !t))) s') E s) : wpAny (model prog w) A (Builtin.«object.__ne__» ⟨[.ref x, b], []⟩) Q E s := by
  unfold Builtin.«object.__ne__»
  refine wpAny_bind (m := slotArgs "__ne__" 1 _) (wpAny_pure ?_)
  refine wpAny_bind (wpAny_cRoomFor hu ?_)
  refine wpAny_bind (ifBound_K KX J hs hf (wpAny_mono hc (fun v s' z => ?_) fun _ _ e => e))
  obtain ⟨t, rfl, q⟩ := z
  exact wpAny_bind (wpAny_truthy_bool (wpAny_pure q))
theorem try_ne {Q : Option Value → Shared → Prop} (KX : K.In s.heap) (J : InstAt s.heap x ox C od) (hn : findIn K (.ref C) "__ne__" = some (some (.builtin "object.__ne__"))) (ho : subIn K (.ref C) (.type "object") = some true)
    (hs : findIn K (.ref C) "__eq__" = some (some (.ref f))) (hf : isFn K (.ref f) = true) (hu : A.units + 1 < cLine)
    (hc : wpAny (model prog w) A.in1 (call (.ref f) [.ref x, b]) (fun v s' => ∃ t, v = .bool t ∧ Q (some (.bool !t)) s') E s) : wpAny (model prog w) A (tryCompare (.ref x) "__ne__" b) Q E s := by
  have SN := PySem.F.cmp_object.ne
  have go : wpAny (model prog w) A (call (.builtin "object.__ne__") ([.ref x] ++ [b])) (fun v s' => (∃ t, v = .bool t) ∧ Q (some v) s') E s := by
    refine wpAny_call (codeAny_call_builtin SN.plain PySem.F.cmpEntry_ne (check_slot PySem.F.cmpKind_ne PySem.F.cmpSplit_ne (J.type.andThen (looks_subIn KX ho)) (PySem.F.cmpArgs_ne _ _) ?_))
    refine ne_body (A := A.in1) KX J hs hf hu (wpAny_mono hc (fun v s' z => ?_) fun _ _ e => e)
    obtain ⟨t, rfl, q⟩ := z
    exact ⟨t, rfl, ⟨_, rfl⟩, q⟩
  unfold tryCompare
  simp only [callSpecialIfBound?, bindSpecialIfBound?]
  refine wpAny_bind (wpAny_holding (wpAny_bind (wpAny_bind (wpAny_bind (J.type.here ((looks_findIn KX hn).here ?_))))))
  refine wpAny_bind (wpAny_askSetting (wpAny_ite ?_))
  rw [SN.bind]
  split
  · refine wpAny_bind (wpAny_pure (wpAny_pure ?_))
    refine wpAny_bind (wpAny_mono go (fun v s' z => ?_) fun _ _ e => e)
    obtain ⟨⟨t, rfl⟩, q⟩ := z
    exact wpAny_pure (wpAny_pure q)
  · refine wpAny_tryCatch (wpAny_bind (wpAny_pure (wpAny_pure ?_)))
    refine wpAny_bind (wpAny_mono go (fun v s' z => ?_) fun _ _ e => e)
    obtain ⟨⟨t, rfl⟩, q⟩ := z
    exact wpAny_pure (wpAny_pure q)
theorem ne_own {Q : Value → Shared → Prop} {tb : Value} (KX : K.In s.heap) (J : InstAt s.heap x ox C od) (hb : Looks (model prog w) s.heap (typeOf b) tb) (hf1 : notFirst K C tb = true)
    (hn : findIn K (.ref C) "__ne__" = some (some (.builtin "object.__ne__"))) (ho : subIn K (.ref C) (.type "object") = some true)
    (hs : findIn K (.ref C) "__eq__" = some (some (.ref f))) (hf : isFn K (.ref f) = true) (hu : A.units + 1 < cLine)
    (hc : wpAny (model prog w) A.in1 (call (.ref f) [.ref x, b]) (fun v s' => ∃ t, v = .bool t ∧ Q (.bool !t) s') E s) : wpAny (model prog w) A (compareOp .NotEq (.ref x) b) Q E s := by
  have one : wpAny (model prog w) A (tryCompare (.ref x) "__ne__" b) (fun r s' => ∃ v, r = some v ∧ Q v s') E s :=
    try_ne KX J hn ho hs hf hu (wpAny_mono hc (fun v s' ⟨t, e, q⟩ => ⟨t, e, _, rfl, q⟩) fun _ _ e => e)
  show wpAny (model prog w) A (richCompare .NotEq (.ref x) b) Q E s
  unfold richCompare
  simp only [oneThing_ref]
  refine wpAny_holding (wpAny_bind (wpAny_cRoomFor (Nat.lt_of_succ_lt hu) ?_))
  refine wpAny_bind (J.type.here (wpAny_bind (hb.here ?_)))
  have last : wpAny (model prog w) A (tryCompare (.ref x) "__ne__" b >>= fun r => (match r with | some v => pure v | none => pure .none)) Q E s := wpAny_bind (wpAny_mono one (fun r s' ⟨v, e, q⟩ => by subst e; exact wpAny_pure q) fun _ _ e => e)
  split
  · rename_i q
    have e : subIn K tb (.ref C) = some false := by
      rcases Bool.or_eq_true_iff.mp hf1 with e | e
      · rw [beq_iff_eq.mp e] at q; simp at q
      · exact beq_iff_eq.mp e
    refine wpAny_bind ((looks_subIn KX e).here ?_)
    simp only [Bool.false_eq_true, if_false]
    refine wpAny_bind (wpAny_mono one (fun r s' ⟨v, e, q⟩ => ?_) fun _ _ e => e)
    subst e
    exact wpAny_pure q
  · refine wpAny_bind (wpAny_pure ?_)
    simp only [Bool.false_eq_true, if_false]
    refine wpAny_bind (wpAny_mono one (fun r s' ⟨v, e, q⟩ => ?_) fun _ _ e => e)
    subst e
    exact wpAny_pure q
end
end Ev
namespace Ev
open PySem PySem.Spec PyProof.Rows L2
structure EqOk (X : Cx) (fa fc : Nat → Addr) (fds : Nat → FuncData) (PS : Nat → List Str) (call : CallT) (k : Nat) (mt : Nat → Option Nat) (c f : Nat) : Prop where
  mo : MtOk X fa fc fds PS call k "__eq__" c f []
  ne : PySem.W.findIn X.K (.ref (fc c)) "__ne__" = some (some (.builtin "object.__ne__"))
  ob : PySem.W.subIn X.K (.ref (fc c)) (.type "object") = some true
  nt : ∀ t : Ty, PySem.W.notFirst X.K (fc c) (.type t.nm) = true
  nc : ∀ c' f', mt c' = some f' → PySem.W.notFirst X.K (fc c) (.ref (fc c')) = true
def okR (mt : Nat → Option Nat) (A : Hs) (y : AV) : Bool := match insOf A y with
  | some (c, _) => (mt c).isSome
  | none => (tyA A y).isSome
def vEqO (call : CallT) (mt : Nat → Option Nat) (x y : AV) (A : Hs) : R := ownC call mt A x [y] (vEq x y A) (onBl fun b B => guard' (okR mt A y) (.ok (.bl b) B))
def vNeO (call : CallT) (mt : Nat → Option Nat) (x y : AV) (A : Hs) : R := ownC call mt A x [y] (vNe x y A) (onBl fun b B => guard' (okR mt A y) (.ok (.bl !b) B))
section
variable {X : Cx} {fa fc : Nat → Addr} {fds : Nat → FuncData} {PS : Nat → List Str} {call : CallT} {k : Nat} {mt : Nat → Option Nat} {σ : L2.St} {H : Hp} {Q : VK}
theorem okR_ok {pins : List (Addr × Obj)} {s : Shared} {ρ : Rho} {A : Hs} {c f : Nat} {y : AV} {yv : V} {u : Value} (t : EqOk X fa fc fds PS call k mt c f) (I : Inv X pins σ H s) (rel : Rel (gl X fa fc) ρ A H) (hy : VRel (gl X fa fc) ρ H false y yv) (ry : L2.RelV yv u) (g : okR mt A y = true) :
    ∃ tb, PySem.W.Looks (model X.prog X.w) s.heap (typeOf u) tb ∧ PySem.W.notFirst X.K (fc c) tb = true := by
  unfold okR at g
  split at g
  · rename_i c' fs e1
    obtain ⟨f', e2⟩ := Option.isSome_iff_exists.mp g
    obtain ⟨p, dx, vs, rfl, sl, _⟩ := insOf_ok rel hy e1
    cases (show u = Value.ref p from ry)
    obtain ⟨_, od, J, _⟩ := ins_inst I sl
    exact ⟨_, J.type, t.nc c' f' e2⟩
  · obtain ⟨ty, e2⟩ := Option.isSome_iff_exists.mp g
    obtain ⟨P, Z, p, _⟩ := kit_of I ry (tyA_ok rel hy e2)
    exact ⟨_, Z.ty _ _ I.kIn p, t.nt ty⟩
theorem ov_eqO (hu : X.A.units + 65 < cLine) (T : ∀ c f, mt c = some f → EqOk X fa fc fds PS call k mt c f) (hr : Room k X.A) : OpR X (compareOp .Eq) (rOp (gl X fa fc) (vEqO call mt)) := by
  rintro pins s σ H x y v u Q I rx ry ⟨xa, ya, ρ, A, rel, vr, w, A', hf, kk⟩
  obtain ⟨hx, hy⟩ := two vr
  rcases ownC_ok rel hx hf with hf | ⟨c, f, p, dx, vs, z, B, e1, rfl, sl, e2, e3⟩
  · exact ov_eq fa fc (by omega) pins s σ H x y v u Q I rx ry ⟨xa, ya, ρ, A, rel, vr, w, A', hf, kk⟩
  · have t := T c f e1
    cases (show v = Value.ref p from rx)
    obtain ⟨b, rfl, e3⟩ := onBl_ok e3
    obtain ⟨g, e3⟩ := guard_ok e3
    cases e3
    obtain ⟨_, od, J, _⟩ := ins_inst I sl
    obtain ⟨m', hF⟩ := I.fr
    obtain ⟨tb, h1, h2⟩ := okR_ok t I rel hy ry g
    refine PySem.W.cmp_K (op := .Eq) hr.units0 hF I.ok.mod.kin J h1 h2 t.mo.me.at_ t.mo.me.fn (wpAny_mono (t.mo.run (vs := [.ref p, y]) (Q := fun z H' => Q z H') hr I.env0 I (.cons rfl (.cons ry .nil)) ⟨ρ, A, _, rel, .cons hx (.cons hy .nil), _, _, e2, kk⟩) (fun r s' z => ?_) fun _ _ x => x)
    obtain ⟨z', H', I', rz, qz⟩ := z
    exact SlX.cmpback rz ⟨z', H', I', rz, qz⟩
theorem ov_neO (hu : X.A.units + 65 < cLine) (T : ∀ c f, mt c = some f → EqOk X fa fc fds PS call k mt c f) (hr : Room (k + 1) X.A) : OpR X (compareOp .NotEq) (rOp (gl X fa fc) (vNeO call mt)) := by
  rintro pins s σ H x y v u Q I rx ry ⟨xa, ya, ρ, A, rel, vr, w, A', hf, kk⟩
  obtain ⟨hx, hy⟩ := two vr
  rcases ownC_ok rel hx hf with hf | ⟨c, f, p, dx, vs, z, B, e1, rfl, sl, e2, e3⟩
  · exact ov_ne fa fc (by omega) pins s σ H x y v u Q I rx ry ⟨xa, ya, ρ, A, rel, vr, w, A', hf, kk⟩
  · have t := T c f e1
    cases (show v = Value.ref p from rx)
    obtain ⟨b, rfl, e3⟩ := onBl_ok e3
    obtain ⟨g, e3⟩ := guard_ok e3
    cases e3
    obtain ⟨_, od, J, _⟩ := ins_inst I sl
    obtain ⟨tb, h1, h2⟩ := okR_ok t I rel hy ry g
    refine ne_own I.kIn J h1 h2 t.ne t.ob t.mo.me.at_ t.mo.me.fn (by omega) (wpAny_mono (t.mo.run (vs := [.ref p, y]) (Q := fun z H' => ∃ b, z = .bl b ∧ Q (.bl !b) H') hr.in1 I.env0.in1 I (.cons rfl (.cons ry .nil)) ⟨ρ, A, _, rel, .cons hx (.cons hy .nil), _, _, e2, fun ρ1 H1 q ex r1 vq => ?_⟩) (fun r s' z => ?_) fun _ _ x => x)
    · cases vq
      exact ⟨b, rfl, kk ρ1 H1 _ ex r1 .bl⟩
    · obtain ⟨z', H', I', rz, b', e, qz⟩ := z
      subst e
      cases rz
      exact ⟨b', rfl, .bl !b', H', I', rfl, qz⟩
end
end Ev
namespace Ev
open PySem PySem.Spec PyProof.Rows L2
def ItOT (l it : Addr) : HO := .ext fun h => h.IsTupleIter it l 0
theorem itOT_ok {P : Program} {w : World} {H : Hp} {h : Heap} {l it : Addr} (e : h.IsTupleIter it l 0) : ObjOk P w H h it (ItOT l it) := by
  obtain ⟨o, e1, e2⟩ := id e
  exact ⟨e, ⟨_, e1⟩, fun h1 h2 q k => Heap.IsTupleIter.at q k⟩
section
variable {prog : Program} {w : World} {A : Around} {E : Value → Shared → Prop} {s : Shared} {l : Addr} {items : Array Value}
theorem call_iterTup {Q : Value → Shared → Prop} (hl : s.heap.IsTuple l items) (h : Q (.ref s.heap.objs.size) { s with heap := s.heap.push { cls := .type "tuple_iterator", data := .fields #[.ref l, .int 0 0] } }) : wpAny (model prog w) A (call (.builtin "iter") [.ref l]) Q E s := by
  refine Calls.call_function_entry (by decide +kernel) (by decide +kernel) PySem.W.kdk_entry_iter (PySem.W.kdk_args_iter _) ?_
  unfold Builtin.«iter»
  refine wpAny_bind (m := someArgs "iter" 1 2 _) (wpAny_of_eq (a := [Value.ref l]) (by first | rfl | kernel_rfl!) ?_)
  show wpAny _ _ (pyIter (.ref l) >>= _) _ _ _
  refine wpAny_bind (PySem.wpAny_pyIter_tuple hl ?_)
  exact wpAny_pure ⟨_, rfl, h⟩
end
def rIterT (K : PySem.W.Frag) (n : Nat) : List V → Hp → VK → Prop := fun xs H Q => ∃ (l : Addr) (zs : List V), xs = [.ref l] ∧ SqT K H l zs ∧ ∀ it, H it = Option.none → n ≤ it → Q (.ref it) (upd H it (ItOT l it))
theorem call_iterT {X : Cx} : CallR X (.builtin "iter") (rIterT X.K X.s_0.heap.objs.size) := by
  intro pins s σ H xs us Q I r h
  obtain ⟨l, zs, rfl, hq, q⟩ := h
  obtain ⟨u, rfl, ru⟩ := vals1 r
  cases ru
  obtain ⟨its, rv, pl, hz⟩ := I.tuple hq
  refine call_iterTup (show s.heap.IsTuple l its.toArray from pl) ?_
  exact ⟨.ref s.heap.objs.size, _, I.laid (t' := s.toks) (fun b u e => Heap.get?_push_of_some _ e) (Nat.le_refl _) (itOT_ok ⟨_, Heap.get?_push_size _ rfl, rfl, rfl⟩), rfl, q _ (I.hok.fresh (Nat.le_refl _)) I.sz⟩
/-- a def's call at one state: what it gives may be told of that state -/
theorem run_here {CX : CXT} {P : Program} {w : World} {K : PySem.W.Frag} {mg : Str → Option Value} {base : Heap} {k : Nat} {f : Addr} {name qual : Str} {params : Arguments} {body : List Stmt} {scope : Scope} {dV kV doc pm cdv ct oc : Value} {an od : Option Addr}
    {osl : Array (Option Value)} {N ps : List Str} (lk : K.lookup f = some ⟨oc, od, .func (PySem.W.fnOf name qual params body scope dV kV doc pm an cdv ct), osl⟩) (hcd : PySem.W.codeIn K cdv qual = true) (S : FnScope N ps scope)
    {A : Around} {outer : List Env} {s : Shared} {H : Hp} {args : Args} {us : List Value} {vs : List V} {Q : VK} {E : XK} (hr : Room (k + 1) A) (e0 : Env0 P w K mg base A outer s H) (hb : BindsTo s (PySem.W.fnOf name qual params body scope dV kV doc pm an cdv ct) args (ps.zip us)) (r : Vals vs us) (hl : vs.length = ps.length)
    (hbody : Room k (A.deeper (envOfC qual scope s.heap.objs.size f cdv)) → ∃ t, PSs (cxOf CX P w K mg base N qual scope f cdv A outer s H E) body t ∧ t { nx := fun _ H' => Q .non H', rt := Q } (start N vs) H) :
    codeAny (model P w) A (.call (.ref f) args) (CR CX outer P w H s Q E) s := by
  have KX : K.In s.heap := e0.mod.kin.keeps fun b o e => (e0.bs b o e).1
  have lim : s.heap.NoLimit := e0.mod.nolimit.keeps fun b o e => (e0.bs b o e).1
  have hkind : ∀ y ∈ ps.zip us, scope.names.lookup y.1 = some .local ∨ (scope.names.lookup y.1 = some .cell ∧ ((cellsFrom (s.heap.objs.size + 1) scope.names []).lookup y.1).isSome = true) := fun ⟨n, v⟩ hy => by
    rcases S.par n (List.of_mem_zip hy).1 with q | q
    · exact .inl q
    · exact .inr ⟨q, PySem.W.cellsFrom_some _ _ _ (.inl q)⟩
  refine codeAny_call_function hr.depth (KX _ _ lk) rfl S.co S.gen rfl (PySem.W.codeRec_of KX hcd) (hb _ _ _ _ ?_)
  refine wpAny_newFunctionEnv_cells S.kind hkind fun env he s1 x => ?_
  subst he
  refine ⟨lim.keeps x.toInCall.keep, codeAny_func ?_⟩
  obtain ⟨t, ht, hq⟩ := hbody (hr.deeper _)
  have I : Inv (cxOf CX P w K mg base N qual scope f cdv A outer s H E) [] (start N vs) H s1 := inv_start S hr.hd e0 hl r x
  refine wpAny_mono (ht.run [] s1 (start N vs) H _ I hq) (fun fl s' hs => ?_) fun e s' hs => hs
  have fin : ∀ {σ' : L2.St} {H' : Hp} {v : V} {u : Value}, Inv (cxOf CX P w K mg base N qual scope f cdv A outer s H E) [] σ' H' s' → RelV v u → Q v H' → L2.CE outer P w H s Q u s' :=
    fun {σ' H' v u} J rv q => ⟨v, H', J.os, J.bare, J.base, J.hok, rv, q⟩
  cases fl with
  | ret u =>
    obtain ⟨v, σ', H', J, rv, q⟩ := hs
    exact fin J rv q
  | next =>
    obtain ⟨σ', H', J, q⟩ := hs
    exact fin (v := V.non) (u := Value.none) J rfl q
  | brk =>
    obtain ⟨_, _, _, q⟩ := hs
    exact False.elim q
  | cont =>
    obtain ⟨_, _, _, q⟩ := hs
    exact False.elim q
/-- the class at C: def __iter__(self): return iter(self.fl), fl the slot i -/
structure ItrC (K : PySem.W.Frag) (mg : Str → Option Value) (C : Addr) (c i : Nat) : Prop where
  cl : SlX.SCls K C
  ex : ∃ (g : Addr) (fd : FuncData) (x qual fl : Str) (params : Arguments) (scope : Scope) (p0 p1 p2 p3 p4 : Pos) (pd : Addr), Meth K C "__iter__" g ∧ FunD K x qual params [.Return (some (.Call (.Name "iter" p0) [.Attribute (.Name "self" p1) fl p2] [] p3)) p4] scope [] [] g fd ∧
    FnScope ["self"] ["self"] scope ∧ scope.names.lookup ("self" : Str) = some .local ∧ scope.names.lookup ("iter" : Str) = some .globalImplicit ∧ Binds K fd ["self"] [] ∧ SlX.Slot1 K C fl pd i
  mi : mg "iter" = Option.none
  pn : plainNm c = []
section
variable {X : Cx} {pins : List (Addr × Obj)} {σ : L2.St} {H : Hp} {s : Shared} {C a dx l : Addr} {c i : Nat} {vs : List (Option V)} {zs : List V} {A : Around}
/-- iter(o) -/
theorem iter_own (T : ItrC X.K X.mg C c i) (hr : Room 3 A) (I : Inv X pins σ H s) (e0 : Env0 X.prog X.w X.K X.mg X.base A X.stack s H) (hs : SlX.Slt H a C dx vs) (hv : vs[i]? = some (some (.ref l))) (hl : SqT X.K H l zs) {Q : Value → Shared → Prop} {E : Value → Shared → Prop}
    (h : ∀ it s', Inv X pins σ H s' → s'.heap.IsTupleIter it l 0 → FpOk X pins H it → s.heap.objs.size ≤ it → Q (.ref it) s') : wpAny (model X.prog X.w) A (pyIter (.ref a)) Q E s := by
  obtain ⟨g, fd, x, qual, fl, params, scope, p0, p1, p2, p3, p4, pd, me, D, S, v1, g1, bi, s1⟩ := T.ex
  obtain ⟨_, od, _, J, _⟩ := SlX.slt_inst I hs
  obtain ⟨m', hF⟩ := I.fr
  refine PySem.W.owit_iter hF I.ok.mod.kin J me.at_ me.fn ?_
  obtain ⟨oc, od', dV, kV, doc, pm, an, cdv, ct, osl, rfl, lk, hcd, _, _⟩ := D.ex
  refine wpAny_call (codeAny_mono (run_here (CX := CX0) (E := E0) (vs := [.ref a]) (us := [.ref a]) (Q := fun v H' => ∃ it, v = .ref it ∧ H it = Option.none ∧ s.heap.objs.size ≤ it ∧ H' = upd H it (ItOT l it)) lk hcd S hr e0 (bi s [.ref a] I.kIn rfl) (.cons rfl .nil) rfl (fun hr2 =>
    ⟨_, pss_one (ps_ret (pe_callB call_iterT (show L2.Gl _ _ from g1) T.mi (by decide +kernel) (pa_cons (SlX.pe_sl (pe_var (i := 0) rfl (.inl v1))) pa_nil))), ?_⟩)) fun r s' hq => ?_)
  · exact ⟨.ref a, rfl, a, C, dx, pd, vs, i, .ref l, rfl, hs, T.cl, s1, hv, l, zs, rfl, hl, fun it hn hz => ⟨it, rfl, hn, hz, rfl⟩⟩
  · cases r with
    | error e => exact False.elim hq
    | ok fl =>
      cases fl with
      | ret u =>
        obtain ⟨v, H', I', rv, it, ev, hn, hz, eH⟩ := I.after hq
        subst ev eH
        cases rv
        have hi : upd H it (ItOT l it) it = some (ItOT l it) := upd_same
        have st : s'.heap.IsTupleIter it l 0 := (I'.hok it _ hi).1
        have I2 := ItX.inv_drop (φ := fun h => h.IsTupleIter it l 0) I' hi
        have fp := ItX.inv_fp I' hi (Nat.le_trans I.sz hz)
        rw [ItX.dropH_upd hn] at I2 fp
        unfold PySem.W.OwitIt
        exact wpAny_specialOf st.typeIs slot_tupleiter_next.lookup (h it s' I2 st fp hz)
      | next => exact False.elim hq
      | brk => exact False.elim hq
      | cont => exact False.elim hq
end
def iOwn (ix : Nat → Option Nat) (c : CE) : CI := fun e A => match c e A with
  | .ok x A => (match insOf A x with
    | some (k, fs) => (match ix k with
      | some i => (match fs[i]? with
        | some (.tup xs) => .ok (.tup xs) A
        | _ => .bad)
      | none => .bad)
    | none => (match tupOf x with
      | some xs => .ok (.tup xs) A
      | none => (match sqlOf A x with
        | some _ => .ok (.lst x) A
        | none => .bad)))
  | .bad => .bad
section
variable {X : Cx} {fa fc : Nat → Addr} {a tg : Expr} {ca : CE} {ix : Nat → Option Nat}
theorem pic_own (T : ∀ c i, ix c = some i → ItrC X.K X.mg (fc c) c i) (hr : Room 3 X.A) (h : PEc (gl X fa fc) X a ca) : PIc (gl X fa fc) X tg a (iOwn ix ca) := by
  refine ⟨fun pins s σ H R I hh => ?_⟩
  obtain ⟨ρ, A, e, r, er, sr, A', hc, k⟩ := hh
  unfold iOwn at hc
  cases h1 : ca e A with
  | bad => rw [h1] at hc; cases hc
  | ok x B =>
    rw [h1] at hc
    dsimp only at hc
    split at hc
    · rename_i c fs e1
      split at hc
      · rename_i i e2
        split at hc
        · rename_i xs e3
          cases hc
          refine thn (h.run pins s σ H (fun xv H1 => ∃ p dx vs l zs, xv = .ref p ∧ SlX.Slt H1 p (fc c) dx vs ∧ vs[i]? = some (some (.ref l)) ∧ SqT X.K H1 l zs ∧ R (Itt X.K l) H1) I ⟨ρ, A, e, r, er, .nil, x, _, h1, fun ρ1 H1 xv ex r1 vx => ?_⟩) fun u s1 ⟨xv, H1, I1, rx, p, dx, vs, l, zs, ev, sl, hv, hq, q⟩ => ?_
          · obtain ⟨p, dx, vs, rfl, sl, fr⟩ := insOf_ok r1 vx e1
            obtain ⟨v, hv, vv⟩ := fr.get e3 (fun z => by cases z)
            obtain ⟨l, zs, rfl, f1, v1⟩ := tupOf_ok vv rfl
            cases sl with
            | pl hn => exact absurd (T c i e2).pn hn
            | sl _ sl =>
            exact ⟨p, dx, vs, l, zs, rfl, sl, hv, f1.sq, k ρ1 H1 _ ex r1 ⟨l, zs, f1, v1, rfl⟩⟩
          · subst ev
            cases rx
            exact iter_own (T c i e2) hr I1 I1.env0 sl hv hq fun it s' I2 st fp _ => ⟨it, [it], _, _, H1, rfl, I2, turn_tuple l it, st, fun b hb => by rw [show b = it by simpa using hb]; exact fp, q⟩
        · cases hc
      · cases hc
    · exact (pic_seq h).run pins s σ H R I ⟨ρ, A, e, r, er, sr, A', by unfold iSeq; rw [h1]; exact hc, k⟩
end
end Ev
namespace Ev
open PySem PySem.Spec PyProof.Rows L2
section
variable {X : Cx} {pins : List (Addr × Obj)} {σ : L2.St} {q l it : Addr} {zs : List V} {A1 : Around} {Rs : Result → Shared → Prop}
theorem sqT_upd {K : PySem.W.Frag} {H : Hp} {o : HO} (h : SqT K H l zs) (n : l ≠ q) : SqT K (upd H q o) l zs := by
  have e : upd H q o l = H l := upd_ne n
  unfold SqT Rd at h ⊢
  simp only [e]
  exact h
theorem fp_upd {H : Hp} {o : HO} (h : FpOk X pins H it) (n : it ≠ q) : FpOk X pins (upd H q o) it := ⟨by rw [upd_ne n]; exact h.1, h.2⟩
theorem ext_loop (hh : A1.in1.handled = Option.none) (nl : l ≠ q) (ni : it ≠ q) {H : Hp} (hl : SqT X.K H l zs) (hf : FpOk X pins H it) (hz : zs.length ≤ sizeLine) (hd : ∀ s', Inv X pins σ (upd H q (.lst zs)) s' → Rs (.ok (.ret .none)) s') :
    ∀ (m i : Nat) (s : Shared), i + m = zs.length → Inv X pins σ (upd H q (.lst (zs.take i))) s → s.heap.IsTupleIter it l i → codeAny (model X.prog X.w) A1 (.builtin "list.extend.loop" ⟨[.ref q, .ref it, .none], []⟩) Rs s := by
  intro m
  induction m with
  | zero =>
    intro i s hi I st
    refine codeAny_builtin PySem.F.entry_extend_loop ?_
    rw [Around.under_plainId PySem.F.plain_extend_loop _]
    show wpAny _ A1.in1 (pyNext (.ref it) >>= _) _ _ s
    obtain ⟨its, rv, p, _⟩ := I.tuple (sqT_upd hl nl)
    obtain ⟨f0, f1, f2, f3, f4, f5⟩ := fp_upd (o := .lst (zs.take i)) hf ni
    have e := rv.length
    refine wpAny_bind (PySem.wpAny_pyNext_tuple_end hh st (show s.heap.IsTuple l its.toArray from p) (by simp; omega) fun h' eb => ?_)
    refine wpAny_pure (hd _ ?_)
    have I' := I.turned (t' := s.toks) (fun b o hb e => eb b o hb e) f0 f1 f3 f4 f5
    rw [show zs.take i = zs from List.take_of_length_le (by omega)] at I'
    exact I'
  | succ m ih =>
    intro i s hi I st
    refine codeAny_builtin PySem.F.entry_extend_loop ?_
    rw [Around.under_plainId PySem.F.plain_extend_loop _]
    show wpAny _ A1.in1 (pyNext (.ref it) >>= _) _ _ s
    obtain ⟨its, rv, p, _⟩ := I.tuple (sqT_upd hl nl)
    have fp := fp_upd (o := .lst (zs.take i)) hf ni
    obtain ⟨f0, f1, f2, f3, f4, f5⟩ := id fp
    have hlt : i < zs.length := by omega
    obtain ⟨u, hu, ru⟩ := rv.get (List.getElem?_eq_getElem hlt)
    refine wpAny_bind (PySem.wpAny_pyNext_tuple_item st (show s.heap.IsTuple l its.toArray from p) (x := u) (by simpa using hu) fun h' st' sb => ?_)
    have I1 : Inv X pins σ (upd H q (.lst (zs.take i))) { s with heap := h' } := I.turned (t' := s.toks) (fun b o hb e => (sb.2 b hb).trans e) f0 f1 f3 f4 f5
    obtain ⟨ob, eo, hc, hd2⟩ := id st'
    have I2 := I1.pinned (fp := [it]) (fun b hb => by rw [show b = it by simpa using hb]; exact fp) (fun b hb => ⟨ob, by rw [show b = it by simpa using hb]; exact eo, fun v z => by rw [hd2] at z; cases z⟩)
    show wpAny _ A1.in1 (updateSeq q (·.push u) >>= _) _ _ _
    obtain ⟨z, its2, k, r2, hl2, e⟩ := I2.lstM upd_same
    have hlen : (zs.take i).length = i := by rw [List.length_take]; omega
    have hl3 : its2.length = i := by rw [← r2.length]; exact hlen
    refine wpAny_bind (wpAny_updateSeq e rfl (wpAny_pure ⟨plainId_quiet PySem.F.plain_extend_loop _, ?_⟩) (by rw [List.size_toArray]; omega) (by show (its2.toArray.push u).size ≤ sizeLine + 1; rw [Array.size_push, List.size_toArray]; omega))
    have I3 := I2.lset (f := (·.push u)) (its' := its2 ++ [u]) (ys := zs.take (i + 1)) (t' := s.toks) upd_same e (by simp) (by
      rw [List.take_succ, List.getElem?_eq_getElem hlt]
      exact r2.append (.cons ru .nil)) (by rw [List.length_take]; omega)
    rw [upd_upd] at I3
    have st2 := (I3.pin (it, ob) (List.mem_append_right _ (List.mem_append_right _ (mem_pinsAt (by simp) eo)))).1
    exact ih (i + 1) _ (by omega) I3.unpinned (st'.at fun o z => by rw [eo] at z; cases z; exact st2)
end
def vListO (k : List AV → Hs → R) (call : CallT) (ix mt : Nat → Option Nat) (x : AV) (A : Hs) : R := match insOf A x with
  | some (c, fs) => (match ix c with
    | some i => (match fs[i]? with
      | some (.tup xs) => (match mt c with
        | some f => (match call f [x] A with
          | .ok (.int n) B => guard' (decide (0 ≤ n) && decide (n ≤ 16777216) && line xs.length) (k xs B)
          | _ => .bad)
        | none => .bad)
      | _ => .bad)
    | none => .bad)
  | none => .bad
theorem vListO_ok {k : List AV → Hs → R} {call : CallT} {ix mt : Nat → Option Nat} {x w : AV} {A A' : Hs} (h : vListO k call ix mt x A = .ok w A') :
    ∃ c fs i xs f n B, insOf A x = some (c, fs) ∧ ix c = some i ∧ fs[i]? = some (.tup xs) ∧ mt c = some f ∧ call f [x] A = .ok (.int n) B ∧ 0 ≤ n ∧ n ≤ 16777216 ∧ xs.length ≤ sizeLine ∧ k xs B = .ok w A' := by
  unfold vListO at h
  split at h
  · rename_i c fs e1
    split at h
    · rename_i i e2
      split at h
      · rename_i xs e3
        split at h
        · rename_i f e4
          split at h
          · rename_i n B e5
            obtain ⟨g, h⟩ := guard_ok h
            simp only [Bool.and_eq_true, decide_eq_true_eq] at g
            exact ⟨c, fs, i, xs, f, n, B, e1, e2, e3, e4, e5, g.1.1, g.1.2, line_ok g.2, h⟩
          · cases h
        · cases h
      · cases h
    · cases h
  · cases h
section
variable {X : Cx} {fa fc : Nat → Addr} {fds : Nat → FuncData} {PS : Nat → List Str} {call : CallT} {k : Nat} {ix mt : Nat → Option Nat} {m : Str}
theorem MtOk.runE {pins : List (Addr × Obj)} {s : Shared} {c f : Nat} {A : Around} {us : List Value} {vs : List V} {σ : L2.St} {H : Hp} {Q : VK} {Er : Value → Shared → Prop} (t : MtOk X fa fc fds PS call k m c f []) (hr : Room k A) (e0 : Env0 X.prog X.w X.K X.mg X.base A X.stack s H) (I : Inv X pins σ H s) (r : Vals vs us) (h : spF (gl X fa fc) call f vs H Q E0) :
    wpAny (model X.prog X.w) A (PySem.call (.ref (fa f)) us) (EP X pins σ Q) Er s := by
  obtain ⟨ds, hb, hd⟩ := t.bi
  have F := t.ok.raw hb hd
  refine wpAny_call (codeAny_mono (F A X.stack s H us vs Q E0 hr e0 r ?_) fun r s' hq => ?_)
  · show spF (gl X fa fc) call f (vs ++ dV []) H Q E0
    rw [show vs ++ dV [] = vs from List.append_nil vs]
    exact h
  · cases r with
    | error e => exact False.elim hq
    | ok fl =>
      cases fl with
      | ret u => exact I.after hq
      | next => exact False.elim hq
      | brk => exact False.elim hq
      | cont => exact False.elim hq
theorem cv_listOk {kk : List AV → Hs → R} (hk : ∀ xs A v A', kk xs A = .ok v A' → (v = .lst xs ∧ A' = A ∧ allF xs = true) ∨ (v = .ref A.length ∧ A' = A ++ [.lst xs])) (T : ∀ c i, ix c = some i → ItrC X.K X.mg (fc c) c i) (T2 : ∀ c f, mt c = some f → MtOk X fa fc fds PS call k "__len__" c f []) (hr : Room (k + 3) X.A) (hr3 : Room 5 X.A) (hcalm : X.calm = true) :
    CallR X (.type "list") (rAs (gl X fa fc) (on1 (vListO kk call ix mt))) := by
  rintro pins s σ H xs us Q I r ⟨ws, ρ, A, rel, vr, w, A', hf, kon⟩
  obtain ⟨x, rfl, hf⟩ := on1_ok hf
  obtain ⟨xv, rfl, hx⟩ := vr.one'
  obtain ⟨c, fs, i, ys, f, n, B, e1, e2, e3, e4, e5, n0, n1, hz, hkk⟩ := vListO_ok hf
  obtain ⟨p, dx, vs, rfl, sl, fr⟩ := insOf_ok rel hx e1
  obtain ⟨v, hv, vv⟩ := fr.get e3 (fun z => by cases z)
  obtain ⟨l, zs, rfl, f1, v1⟩ := tupOf_ok vv rfl
  have v1t : VRels (gl X fa fc) ρ H true ys zs := by
    cases vv with
    | tup f' q' =>
      have := I.tuple_inj f'.sq f1.sq
      subst this
      exact q'
  have t := T2 c f e4
  have tr := T c i e2
  obtain ⟨u, rfl, ru⟩ := r.one
  cases ru
  have lz : zs.length ≤ sizeLine := by rw [← v1.length]; exact hz
  refine callType_codes (Q₁ := fun obj s₁ => obj = .ref s.heap.objs.size ∧ s₁ = { s with heap := s.heap.push { cls := .type "list", data := .seq #[] } }) PySem.F.called_list (PySem.F.typeCall_list_1 _) PySem.F.entry_list_init
    (code_list_new _ ⟨rfl, rfl⟩) fun obj s₁ h₁ => ?_
  obtain ⟨rfl, rfl⟩ := h₁
  have hS : (s.heap.push { cls := .type "list", data := .seq #[] }).get? s.heap.objs.size = some { cls := .type "list", data := .seq #[] } := Heap.get?_push_size _ rfl
  refine ⟨⟨_, hS, rfl⟩, PySem.F.args_list_init_2 _ _, ?_⟩
  have hq : H s.heap.objs.size = none := I.hok.fresh (Nat.le_refl _)
  have I1 : Inv X pins σ (upd H s.heap.objs.size (.lst [])) { s with heap := s.heap.push { cls := .type "list", data := .seq #[] } } := I.lnew (its := []) (t' := s.toks) .nil (Nat.zero_le _)
  show wpAny _ _ (do let old ← Builtin.List.listItems (.ref s.heap.objs.size); Builtin.List.listUpdate (.ref s.heap.objs.size) (fun _ => #[]); letGo old.toList.reverse; Builtin.List.listExtendWith (.ref s.heap.objs.size) (.ref p) .none) _ _ _
  refine wpAny_bind ?_
  unfold Builtin.List.listItems
  refine wpAny_bind (wpAny_seqItems hS rfl (wpAny_pure ?_))
  show wpAny _ _ (updateSeq s.heap.objs.size (fun _ => #[]) >>= fun _ => letGo (#[] : Array Value).toList.reverse >>= fun _ => Builtin.List.listExtendWith (.ref s.heap.objs.size) (.ref p) .none) _ _ _
  refine wpAny_bind (wpAny_updateSeq hS rfl ?_)
  have I2 := I1.lset (f := fun _ => #[]) (its := []) (its' := []) (ys := []) (t' := s.toks) upd_same hS rfl .nil (Nat.zero_le _)
  rw [upd_upd] at I2
  refine wpAny_bind (wpAny_letGo ?_)
  generalize hD : s.heap.objs.size = D at hq I2 ⊢
  generalize { s with heap := ((s.heap.push { cls := .type "list", data := .seq #[] }).update D (Obj.mapSeq fun _ => #[])), toks := s.toks } = s2 at I2 ⊢
  obtain ⟨po, hp⟩ := slt_some sl
  have nDp : p ≠ D := ne_of_none hp hq
  have relH := rel.hide hq (.lst [])
  have exH : Ext ρ H (ρ.hide D) (upd H D (.lst [])) ∨ True := .inr trivial
  have u := upd_priv (H := H) (ρ := ρ.hide D) List.mem_cons_self (.lst [])
  have hx2 : VRel (gl X fa fc) (ρ.hide D) (upd H D (.lst [])) false x (.ref p) := (VRel.sub (ρ := ρ) (ρ' := ρ.hide D) same_c (hide_on hq) hx).chg u
  have v2 : VRels (gl X fa fc) (ρ.hide D) (upd H D (.lst [])) true ys zs := (VRels.sub (ρ := ρ) (ρ' := ρ.hide D) same_c (hide_on hq) v1t).chg u
  obtain ⟨p', dx', vs', ep, sl2, fr2⟩ := insOf_ok relH hx2 e1
  cases ep
  obtain ⟨v', hv2, vv2⟩ := fr2.get e3 (fun z => by cases z)
  obtain ⟨l', zs', rfl, f2, v2'⟩ := tupOf_ok vv2 rfl
  have v2t : VRels (gl X fa fc) (ρ.hide D) (upd H D (.lst [])) true ys zs' := by
    cases vv2 with
    | tup f' q' =>
      have := I2.tuple_inj f'.sq f2.sq
      subst this
      exact q'
  have lz' : zs'.length ≤ sizeLine := by rw [← v2'.length]; exact hz
  obtain ⟨_, od, J, _⟩ := ins_inst I2 sl2
  show wpAny _ X.A.in1.in1 _ _ _ _
  have e0 : Env0 X.prog X.w X.K X.mg X.base X.A.in1.in1 X.stack s2 (upd H D (.lst [])) := I2.env0.in1.in1
  unfold Builtin.List.listExtendWith
  refine wpAny_bind (J.type.here ?_)
  have h1 : Builtin.List.listSameRef (.ref D) (.ref p) = false := by simp [Builtin.List.listSameRef, Ne.symm nDp]
  have h2 : (Value.ref (fc c) == Value.type "list") = false := rfl
  have h3 : (Value.ref (fc c) == Value.type "tuple") = false := rfl
  simp only [h1, h2, h3, Bool.or_false, Bool.false_eq_true, if_false]
  cases sl2 with
  | pl hn => exact absurd tr.pn hn
  | sl hp0 sl2 =>
  refine wpAny_bind (iter_own tr (hr3.in1.in1) I2 e0 sl2 hv2 f2.sq fun it s3 I3 st fp hz3 => ?_)
  have lD : l' ≠ D := fun z => by
    have f2 := f2.1
    rw [z, upd_same] at f2; cases f2
  have iD : it ≠ D := fun z => by
    have := fp.1
    rw [z, upd_same] at this; cases this
  obtain ⟨ob, eo, hcb, hdb⟩ := id st
  have I4 := I3.pinned (fp := [it]) (fun b hb => by rw [show b = it by simpa using hb]; exact fp) (fun b hb => ⟨ob, by rw [show b = it by simpa using hb]; exact eo, fun v z => by rw [hdb] at z; cases z⟩)
  refine wpAny_bind (wpAny_holding ?_)
  obtain ⟨_, od3, _, J3, _⟩ := SlX.slt_inst I4 sl2
  obtain ⟨m', hF⟩ := I4.fr
  unfold Builtin.List.listLengthHint
  refine wpAny_bind (wpAny_bind (J3.type.here ((PySem.W.looks_findIn I4.kIn t.me.at_).here ?_)))
  refine PySem.W.KFB.if_not rfl ?_
  refine PySem.W.KFB.if_so rfl ?_
  refine wpAny_bind (wpAny_rule ?_)
  refine wpAny_bind (wpAny_attempt ?_)
  have hk3 : Room k X.A.in1.in1.in1 := hr.in1.in1.in1
  refine PySem.W.len_K hF I4.ok.mod.kin J3 t.me.at_ t.me.fn (wpAny_mono (t.runE (vs := [.ref p]) (Q := fun z H' => z = .int n ∧ ∃ ρ2, Ext ρ H ρ2 H' ∧ Ext (ρ.hide D) (upd H D (.lst [])) (ρ2.hide D) H' ∧ Rel (gl X fa fc) (ρ2.hide D) B H') hk3 I4.env0.in1.in1.in1 I4 (.cons rfl .nil) ⟨ρ.hide D, A, _, relH, .cons hx2 .nil, _, _, e5, fun ρ1 H1 q ex r1 vq => ?_⟩) (fun r s' z => ?_) fun _ _ x => x)
  · cases vq
    obtain ⟨ρ2, rfl, exu⟩ := ex.unhide
    refine ⟨rfl, ρ2, ?_, ex, r1⟩
    exact ⟨exu.app.imp fun ν h => ⟨h.1, h.2.1, fun p hp => by
      obtain ⟨a1, a2⟩ := h.2.2 p hp
      have n1 : p.1 ≠ D := fun z => by rw [z, upd_same] at a1; cases a1
      have n2 : p.2 ≠ D := fun z => by rw [z, upd_same] at a2; cases a2
      rw [upd_ne n1] at a1
      rw [upd_ne n2] at a2
      exact ⟨a1, a2⟩⟩, fun a o qa na => exu.keep a o (by rw [upd_ne (ne_of_none qa hq)]; exact qa) na⟩
  · obtain ⟨z', H', I5, rz, e, ρ2, ex1, ex2, r2⟩ := z
    subst e
    obtain ⟨tk, rfl⟩ := (show ∃ t, r = Value.int n t from rz)
    refine ⟨⟨n0, by omega⟩, ?_⟩
    have st5 := (I5.pin (it, ob) (List.mem_append_right _ (List.mem_append_right _ (mem_pinsAt (by simp) eo)))).1
    have fr5 := (I5.pin (it, ob) (List.mem_append_right _ (List.mem_append_right _ (mem_pinsAt (by simp) eo)))).2.1
    have I6 := (I5.unpinned).tok (s'.toks + 1)
    have hD5 : H' D = some (.lst []) := ex2.pv upd_same (relH.pv D List.mem_cons_self).1 List.mem_cons_self
    have hup : upd H' D (.lst []) = H' := by
      funext b
      by_cases hb : b = D
      · rw [hb, upd_same, hD5]
      · rw [upd_ne hb]
    have sq5 : SqT X.K H' l' zs' := (f2.mono ex2).sq
    have fin : ∀ s', Inv X pins σ (upd H' D (.lst zs')) s' → wants (fun r s₂ => r = .none ∧ EP X pins σ Q (.ref D) s₂) X.xe (.ok (.ret .none)) s' := fun s7 I7 => by
      refine ⟨rfl, .ref D, _, I7, rfl, ?_⟩
      have u2 := upd_priv (H := H') (ρ := ρ2.hide D) List.mem_cons_self (.lst zs')
      have r3 := r2.priv (D := D) List.mem_cons_self (.lst zs')
      have nD : ¬ ρ2.on D := by
        rintro (z | z)
        · exact (r2.pv D List.mem_cons_self).1 ((onC_eq rfl).mpr z)
        · obtain ⟨ν, _, e2, _⟩ := ex1.app
          rw [e2] at z
          obtain ⟨_, o, w, _⟩ := rel.pv D z
          rw [hq] at w; cases w
      have vz : VRels (gl X fa fc) ρ2 (upd H' D (.lst zs')) true ys zs' := VRels.sub (ρ := ρ2.hide D) (ρ' := ρ2) same_c show_on ((v2t.mono ex2).chg u2)
      have exF : Ext ρ H ρ2 (upd H' D (.lst zs')) := ⟨ex1.app, fun a o qa na => by rw [upd_ne (ne_of_none qa hq)]; exact ex1.keep a o qa na⟩
      rcases hk _ _ _ _ hkk with ⟨rfl, rfl, hF⟩ | ⟨rfl, rfl⟩
      · exact kon ρ2 _ _ exF r3.unhide (.lst upd_same nD vz)
      · have exP : Ext ρ H (ρ2.push (D, D)) (upd H' D (.lst zs')) := by
          obtain ⟨ν, e1, e2, e3⟩ := exF.app
          refine ⟨⟨ν ++ [(D, D)], by simp [Rho.push, e1], e2, fun p hp => ?_⟩, exF.keep⟩
          rcases List.mem_append.mp hp with hp | hp
          · exact e3 p hp
          · simp at hp; subst hp; exact ⟨hq, hq⟩
        have rP := Rel.out r3 nD upd_same ((v2t.mono ex2).chg u2).wk
        exact kon _ _ _ exP rP (.ref (p := (D, D)) (push_at r3.unhide _))
    have tl : Builtin.List.listTooLong n.toNat = false := by
      unfold Builtin.List.listTooLong
      exact decide_eq_false (by rw [sizeLine_eq]; omega)
    refine wpAny_bind (m := asInt? (.int n _)) (wpAny_pure ?_)
    dsimp only
    refine PySem.W.KFB.if_not tl ?_
    refine wpAny_pure ?_
    have stT : ∀ (h : Heap), h.get? it = some ob → h.IsTupleIter it l' 0 := fun h e => st.at fun o z => by rw [eo] at z; cases z; exact e
    have fpH : FpOk X pins H' it := ⟨fr5, fp.2⟩
    have hhd : X.A.in1.in1.handled = Option.none := I.ok.hd hcalm
    refine wpAny_ite_split (fun _ => ?_) (fun _ => wpAny_pure ⟨plainId_quiet PySem.F.plain_extend_loop _, ext_loop (A1 := X.A.in1) hhd lD iD sq5 fpH lz' fin zs'.length 0 _ (by omega) (by rw [List.take_zero, hup]; exact I6) (stT _ st5)⟩)
    obtain ⟨z, its, kz, r3, hl3, e3⟩ := I6.lstM hD5
    cases r3
    refine wpAny_bind (wpAny_rule ?_)
    refine wpAny_bind ?_
    show wpAny _ _ (updateSeq D (·.push .none) >>= fun _ => updateSeq D (·.pop)) _ _ _
    refine wpAny_bind (wpAny_updateSeq e3 rfl ?_)
    have I6p := I6.pinned (fp := [it]) (fun b hb => by rw [show b = it by simpa using hb]; exact fpH) (fun b hb => ⟨ob, by rw [show b = it by simpa using hb]; exact st5, fun v z => by rw [hdb] at z; cases z⟩)
    have I7 := I6p.lset (f := (·.push Value.none)) (its' := [Value.none]) (ys := [.non]) (t' := s'.toks + 1) hD5 e3 (by simp) (.cons rfl .nil) (by rw [List.length_singleton, sizeLine_eq]; decide)
    obtain ⟨z4, its4, k4, r4, hl4, e4⟩ := I7.lstM upd_same
    obtain ⟨u4, rfl, ru4⟩ := r4.one
    refine wpAny_updateSeq e4 rfl ?_ (by show 1 ≤ sizeLine; rw [sizeLine_eq]; decide) (by show 0 ≤ sizeLine + 1; exact Nat.zero_le _)
    have I8 := I7.lset (f := (·.pop)) (its := [u4]) (its' := []) (ys := []) (t' := s'.toks + 1) upd_same e4 (by rfl) .nil (Nat.zero_le _)
    rw [upd_upd] at I8
    have st8 := (I8.pin (it, ob) (List.mem_append_right _ (List.mem_append_right _ (mem_pinsAt (by simp) st5)))).1
    exact wpAny_pure ⟨plainId_quiet PySem.F.plain_extend_loop _, ext_loop (A1 := X.A.in1) hhd lD iD sq5 fpH lz' fin zs'.length 0 _ (by omega) (by rw [List.take_zero]; exact I8.unpinned) (stT _ st8)⟩
end
end Ev
namespace Ev
open PySem PySem.Spec PyProof.Rows L2
def aStar (c : CE) (r : CA) : CA := fun e A => match c e A with
  | .ok x A => (match seqOf A x with
    | some xs => (match r e A with
      | .ok ys A => .ok (xs ++ ys) A
      | .bad => .bad)
    | none => .bad)
  | .bad => .bad
section
variable {X : Cx} {fa fc : Nat → Addr} {e o a : Expr} {es : List Expr} {ce co ca : CE} {cr ck : CA} {p pos apos : Pos} {σ : L2.St} {H : Hp} {Q : VK} {call : CallT} {k : Nat} {m : Str} {fds : Nat → FuncData} {PS : Nat → List Str} {kws : List Keyword}
theorem pac_star (he : PEc (gl X fa fc) X e ce) (hr : PAc (gl X fa fc) X es cr) (hs : starEach (.Starred e p :: es) X.env = (true, eval e X.env) :: starEach es X.env := by rfl) : PAc (gl X fa fc) X (.Starred e p :: es) (aStar ce cr) := (StX.pa_star he hr hs).imp fun σ H Q h => by
  obtain ⟨ρ, A, e, r, er, vr, w, A', hc, q⟩ := h
  unfold aStar at hc
  cases h1 : ce e A with
  | bad => rw [h1] at hc; cases hc
  | ok x B =>
    rw [h1] at hc
    dsimp only at hc
    split at hc
    · rename_i xs e1
      split at hc
      · rename_i ys B2 e2
        cases hc
        refine ⟨ρ, A, e, r, er, .nil, x, B, h1, fun ρ1 H1 xv ex r1 vx => ?_⟩
        obtain ⟨p, vs, rfl, hq, hv⟩ := seqOf_ok r1 vx e1
        exact ⟨p, vs, rfl, hq.symm, ρ1, B, e, r1, er.mono ex, .nil, ys, _, e2, fun ρ2 H2 zs ex2 r2 vz => q ρ2 H2 _ (ex.trans r1 ex2) r2 ((hv.mono ex2).append vz)⟩
      · cases hc
    · cases hc
def vRev (x : AV) (A : Hs) : R := match sqlOf A x with
  | some xs => guard' (allF xs) (.ok (.lst xs.reverse) A)
  | none => .bad
def vRevM (x : AV) (A : Hs) : R := match sqlOf A x with
  | some xs => .ok (.ref A.length) (A ++ [.lst xs.reverse])
  | none => .bad
theorem pec_revM {k1 : Nat} {p1 p2 p3 : Pos} (ha : PEc (gl X fa fc) X a ca) : PEc (gl X fa fc) X (.Subscript a (.Slice none none (some (.UnaryOp .USub (.Constant (.int 1) k1 p1) p2)) p3) pos) (cUn vRevM ca) := (pe_revL ha).imp fun σ H Q h => by
  refine tEh.imp (tE_un h) fun x H1 ⟨u, ρ, A, rel, vr, w, A', hf, k⟩ => ?_
  have hv := one vr
  unfold vRevM at hf
  split at hf
  · rename_i xs e
    cases hf
    obtain ⟨a, vs, rfl, q, t⟩ := sqlOf_ok rel hv e
    exact ⟨a, vs, rfl, q, Kon.cell rel k t.reverse⟩
  · cases hf
structure MkOk (X : Cx) (fa fc : Nat → Addr) (fds : Nat → FuncData) (PS : Nat → List Str) (call : CallT) (k : Nat) (m : Str) (c f n : Nat) (ks : List Str) : Prop where
  cl : SlX.SCls X.K (fc c)
  nv : m ∉ plainNm c
  me : Meth X.K (fc c) m (fa f)
  ok : FnOk X.prog X.w X.K X.mg X.base CX0 k (fa f) (fds f) (PS f) (spF (gl X fa fc) call f)
  bi : ∃ g, KBn X.K (fds f) (PS f) (n + 1) ks g (fun vs zs => vs ++ zs)
def cMethK (call : CallT) (mt : Nat → Option Nat) (n m : Nat) (o : CE) (args kw : CA) : CE := fun e A => match o e A with
  | .ok x A => (match insOf A x with
    | some (c, _) => (match mt c with
      | some f => (match args e A with
        | .ok xs A => (match kw e A with
          | .ok ys A => guard' (Nat.beq xs.length n && Nat.beq ys.length m) (call f (x :: (xs ++ ys)) A)
          | .bad => .bad)
        | .bad => .bad)
      | none => .bad)
    | none => .bad)
  | .bad => .bad
end
/-- all keyword-only parameters are written -/
theorem FunD.kb {K : PySem.W.Frag} {x qual : Str} {params : Arguments} {body : List Stmt} {scope : Scope} {kws : List (Str × V)} {f : Addr} {fd : FuncData} {ps : List Str} (F : FunD K x qual params body scope [] kws f fd) (n : Nat) (ks : List Str)
    (h : ∀ (kV doc pm : Value) (an : Option Addr) (cdv ct : Value) (us ws : List Value), us.length = n → ws.length = ks.length → bindArgs (PySem.W.fnOf x qual params body scope .none kV doc pm an cdv ct) ⟨us, ks.zip ws⟩ = pure (ps.zip (us ++ ws))) : KBn K fd ps n ks (fun us ws => us ++ ws) (fun vs zs => vs ++ zs) := by
  obtain ⟨oc, od, dV, kV, doc, pm, an, cdv, ct, osl, rfl, lk, hcd, hD, hK⟩ := F.ex
  rcases hD with ⟨_, rfl⟩ | ⟨e, _⟩
  · exact ⟨fun s us ws X l1 l2 => .of_eq (h kV doc pm an cdv ct us ws l1 l2), fun r1 r2 => r1.append r2⟩
  · exact absurd rfl e
/-- ci c d: an instance of class c is one of class d -/
structure IsiC (K : PySem.W.Frag) (fc : Nat → Addr) (ci : Nat → Nat → Option Bool) : Prop where
  cl : ∀ c d b, ci c d = some b → SlX.SCls K (fc c) ∧ SlX.SIsi K (fc c) ∧ PySem.W.kitOne K (.ref (fc c)) (.ref (fc d)) = some b
  ty : ∀ d (t : Ty), (ci d d).isSome = true → PySem.W.kitOne K (.type t.nm) (.ref (fc d)) = some false
def vIsiC (ci : Nat → Nat → Option Bool) (x y : AV) (A : Hs) : R := match y with
  | .cls d => (match insOf A x with
    | some (c, _) => (match ci c d with
      | some b => .ok (.bl b) A
      | none => .bad)
    | none => (match tyA A x with
      | some _ => guard' (ci d d).isSome (.ok (.bl false) A)
      | none => .bad))
  | y => vIsi x y A
section
variable {X : Cx} {fa fc : Nat → Addr} {ci : Nat → Nat → Option Bool}
theorem call_isiI (u : Value) : CallR X (.builtin "isinstance") (fun xs H Q => ∃ (a C dx : Addr) (d : Nat) (vs : List (Option V)) (c : V) (b : Bool), xs = [V.ref a, c] ∧ RelV c u ∧ (∀ w, RelV c w → w = u) ∧ InsH H C d a dx vs ∧ SlX.SCls X.K C ∧ SlX.SIsi X.K C ∧ PySem.W.kitOne X.K (.ref C) u = some b ∧ Q (.bl b) H) := by
  intro pins s σ H xs us Q I r h
  obtain ⟨a, C, dx, d, vs, c, b, rfl, rc, one, hsl, hc, hi, hk, q⟩ := h
  obtain ⟨u1, u2, rfl, r1, r2⟩ := r.two
  cases (show u1 = Value.ref a from r1)
  cases one _ r2
  obtain ⟨_, od, J, _⟩ := ins_inst I hsl
  exact PySem.W.kia_one (OwX.kitx_slt hc.ic (hc.get _) hi.ca hi.cn hi.ct hi.cm) I.kIn J hk (fun z => nomatch z) fun tk => ⟨.bl b, H, I.tok _, rfl, q⟩
theorem cv_isiC (T : IsiC X.K fc ci) : CallR X (.builtin "isinstance") (rAs (gl X fa fc) (on2 (vIsiC ci))) := by
  rintro pins s σ H xs us Q I r ⟨ws, ρ, A, rel, vr, w, A', hf0, k⟩
  obtain ⟨x, y, rfl, hf⟩ := on2_ok hf0
  clear hf0
  obtain ⟨xv, yv, rfl, hx, hy⟩ := vr.two'
  unfold vIsiC at hf
  split at hf
  · rename_i d
    cases hy
    split at hf
    · rename_i c fs e1
      split at hf
      · rename_i b e2
        cases hf
        obtain ⟨t1, t2, t3⟩ := T.cl c d b e2
        obtain ⟨a, dx, vs, rfl, sl, _⟩ := insOf_ok rel hx e1
        exact call_isiI (.ref (fc d)) pins s σ H _ us Q I r ⟨a, fc c, dx, c, vs, .ref (fc d), b, rfl, rfl, fun w z => z, sl, t1, t2, t3, kon0 rel k .bl⟩
      · cases hf
    · split at hf
      · rename_i t e2
        obtain ⟨g, hf⟩ := guard_ok hf
        cases hf
        exact call_isi pins s σ H _ us Q I r ⟨xv, .ref (fc d), _, _, false, rfl, .own _, tyA_ok rel hx e2, T.ty d t g, kon0 rel k .bl⟩
      · cases hf
  · exact cv_isi fa fc pins s σ H _ us Q I r ⟨[x, y], ρ, A, rel, .cons hx (.cons hy .nil), w, A', hf, k⟩
end
end Ev
namespace Ev
open PySem PySem.Spec PyProof.Rows L2
def tb {α : Type} (cl : List Nat) (f : Nat → Option α) (c : Nat) : Option α := match memB c cl with
  | true => f c
  | false => none
theorem memB_mem {c : Nat} : ∀ {l : List Nat}, memB c l = true → c ∈ l
  | [], h => by cases h
  | d :: r, h => by
    unfold memB at h
    cases e : Nat.beq c d with
    | true => rw [Nat.eq_of_beq_eq_true e]; exact List.mem_cons_self
    | false => rw [e] at h; exact List.mem_cons_of_mem _ (memB_mem h)
theorem tb_mem {α : Type} {cl : List Nat} {f : Nat → Option α} {c : Nat} {x : α} (h : tb cl f c = some x) : c ∈ cl ∧ f c = some x := by
  unfold tb at h
  cases e : memB c cl with
  | true => rw [e] at h; exact ⟨memB_mem e, h⟩
  | false => rw [e] at h; cases h
def ciT (cl : List Nat) (c d : Nat) : Option Bool := match memB c cl with
  | true => (match memB d cl with
    | true => some (Nat.beq c d)
    | false => none)
  | false => none
variable {K : PySem.W.Frag} {d : ClsD} {cl : List Nat} {cd : Nat → ClsD} {c : Nat}
theorem mem_allTy (t : Ty) : t ∈ allTy := by cases t <;> simp [allTy]
theorem ClsD.vars_ok (h : d.ok K = true) : varsB K (He.ga K d.nm) d.vars = true := (He.ba (He.ba h).2).1
theorem ClsD.parts (h : d.ok K = true) : d.base K = true ∧ d.isi K = true ∧ d.eqs K = true ∧ slotsB K (He.ga K d.nm) d.slots 0 = true ∧ (d.meths.all fun m => methB K (He.ga K d.nm) m) = true := by
  obtain ⟨_, h⟩ := He.ba h
  obtain ⟨_, h⟩ := He.ba h
  obtain ⟨a, h⟩ := He.ba h
  obtain ⟨b, h⟩ := He.ba h
  obtain ⟨c, h⟩ := He.ba h
  obtain ⟨e, h⟩ := He.ba h
  exact ⟨a, b, c, e, h⟩
theorem ClsD.scls (h : d.ok K = true) : SlX.SCls K (He.ga K d.nm) := by
  obtain ⟨a, h⟩ := He.ba (ClsD.parts h).1
  obtain ⟨b, h⟩ := He.ba h
  obtain ⟨c, h⟩ := He.ba h
  exact ⟨a, b, c, He.eqO_ok h⟩
theorem ClsD.sisi (h : d.ok K = true) : SlX.SIsi K (He.ga K d.nm) := by
  obtain ⟨a, h⟩ := He.ba (ClsD.parts h).2.1
  obtain ⟨b, h⟩ := He.ba h
  obtain ⟨c, h⟩ := He.ba h
  exact ⟨He.eqO_ok a, He.eqO_ok b, of_decide_eq_true c, of_decide_eq_true h⟩
theorem slotsB_at {C : Addr} : ∀ {l : List Str} {k i : Nat} {f : Str}, slotsB K C l k = true → l[i]? = some f → slotB K C f (k + i) = true
  | [], _, _, _, _, h => by simp at h
  | x :: r, k, 0, f, a, h => by simp at h; subst h; exact (He.ba a).1
  | x :: r, k, i + 1, f, a, h => by
    have := slotsB_at (i := i) (f := f) (He.ba a).2 (by simpa using h)
    rw [show k + (i + 1) = k + 1 + i by omega]
    exact this
theorem ClsD.slot (h : d.ok K = true) {i : Nat} {f : Str} (e : d.slots[i]? = some f) : ∃ p, SlX.Slot1 K (He.ga K d.nm) f p i := by
  have h := slotsB_at (ClsD.parts h).2.2.2.1 e
  rw [Nat.zero_add] at h
  obtain ⟨a, h⟩ := He.ba h
  obtain ⟨b, h⟩ := He.ba h
  obtain ⟨c, h⟩ := He.ba h
  obtain ⟨e, h⟩ := He.ba h
  obtain ⟨f, h⟩ := He.ba h
  exact ⟨_, He.eqO_ok a, He.eqO_ok b, of_decide_eq_true c, of_decide_eq_true e, of_decide_eq_true f, Nat.le_of_ble_eq_true h⟩
theorem ClsD.meth (h : d.ok K = true) {m : Str} (e : m ∈ d.meths) : Meth K (He.ga K d.nm) m (He.ma K (He.ga K d.nm) m) ∧ PySem.W.fnIn K (He.ma K (He.ga K d.nm) m) = true := by
  have h := List.all_eq_true.mp (ClsD.parts h).2.2.2.2 m e
  obtain ⟨a, h⟩ := He.ba h
  obtain ⟨b, h⟩ := He.ba h
  obtain ⟨c, h⟩ := He.ba h
  exact ⟨⟨He.eqO_ok a, b, c⟩, h⟩
theorem ClsD.eq_ (h : d.ok K = true) : PySem.W.findIn K (.ref (He.ga K d.nm)) "__ne__" = some (some (.builtin "object.__ne__")) ∧ PySem.W.subIn K (.ref (He.ga K d.nm)) (.type "object") = some true ∧ (∀ t : Ty, PySem.W.notFirst K (He.ga K d.nm) (.type t.nm) = true) ∧ ∀ t : Ty, PySem.W.kitOne K (.type t.nm) (.ref (He.ga K d.nm)) = some false := by
  obtain ⟨a, h⟩ := He.ba (ClsD.parts h).2.2.1
  obtain ⟨b, h⟩ := He.ba h
  obtain ⟨c, h⟩ := He.ba h
  exact ⟨He.eqO_ok a, of_decide_eq_true b, fun t => List.all_eq_true.mp c t (mem_allTy t), fun t => of_decide_eq_true (List.all_eq_true.mp h t (mem_allTy t))⟩
theorem chkC_at (h : chkC cl cd K = true) (hc : c ∈ cl) : (cd c).ok K = true := List.all_eq_true.mp (He.ba h).1 c hc
theorem chkC_pair {e : Nat} (h : chkC cl cd K = true) (hc : c ∈ cl) (he : e ∈ cl) : PySem.W.kitOne K (.ref (He.ga K (cd c).nm)) (.ref (He.ga K (cd e).nm)) = some (Nat.beq c e) ∧ PySem.W.notFirst K (He.ga K (cd c).nm) (.ref (He.ga K (cd e).nm)) = true := by
  have h := List.all_eq_true.mp (List.all_eq_true.mp (He.ba h).2 c hc) e he
  exact ⟨of_decide_eq_true (He.ba h).1, (He.ba h).2⟩
/-- fields: the table is that of the classes' slots -/
def fxB (cl : List Nat) (cd : Nat → ClsD) (f : Str) (fx : Nat → Option Nat) : Bool := cl.all fun c => match fx c with
  | some i => (match decide (plainNm c = []) with
    | true => decide ((cd c).slots[i]? = some f)
    | false => decide ((plainNm c)[i]? = some f) && decide ((cd c).vars = plainNm c))
  | none => true
theorem slotsAt_of {f : Str} {fx : Nat → Option Nat} (h : chkC cl cd K = true) (b : fxB cl cd f fx = true) : SlotsAt K (fcK cd K) f (tb cl fx) := fun c i e => by
  obtain ⟨hc, e⟩ := tb_mem e
  have b := List.all_eq_true.mp b c hc
  rw [e] at b
  dsimp only at b
  by_cases hp : plainNm c = []
  · rw [decide_eq_true hp] at b
    exact .inl ⟨hp, ClsD.scls (chkC_at h hc), ClsD.slot (chkC_at h hc) (of_decide_eq_true b)⟩
  · rw [decide_eq_false hp] at b
    obtain ⟨b1, b2⟩ := He.ba b
    have b1 := of_decide_eq_true b1
    have b2 := of_decide_eq_true b2
    have ok := chkC_at h hc
    have sc := ClsD.scls ok
    have vb := ClsD.vars_ok ok
    rw [b2] at vb
    unfold varsB at vb
    split at vb
    · rename_i hv; exact absurd hv hp
    · obtain ⟨v1, v2⟩ := He.ba vb
      have v3 : PySem.W.findIn K (.ref (He.ga K (cd c).nm)) f = some none := of_decide_eq_true (List.all_eq_true.mp v2 f (List.mem_of_getElem? b1))
      exact .inr ⟨hp, b1, ⟨sc.pg, v1, sc.po, sc.sa⟩, v3⟩
theorem isiC_of (h : chkC cl cd K = true) : IsiC K (fcK cd K) (ciT cl) where
  cl := fun c e b q => by
    unfold ciT at q
    cases h1 : memB c cl with
    | false => rw [h1] at q; cases q
    | true =>
      rw [h1] at q
      dsimp only at q
      cases h2 : memB e cl with
      | false => rw [h2] at q; cases q
      | true =>
        rw [h2] at q
        cases q
        have ok := chkC_at h (memB_mem h1)
        exact ⟨ClsD.scls ok, ClsD.sisi ok, (chkC_pair h (memB_mem h1) (memB_mem h2)).1⟩
  ty := fun e t q => by
    unfold ciT at q
    cases h1 : memB e cl with
    | false => rw [h1] at q; cases q
    | true => exact (ClsD.eq_ (chkC_at h (memB_mem h1))).2.2.2 t
theorem SaysX.chk_ {chk : PySem.W.Frag → Bool} {fa : List He.Fa} {fn : List DfX} {K : PySem.W.Frag} (c : SaysX chk fa fn K) : chk K = true := congrArg (fun z : AlX => z.1) c
theorem SaysX.fact {chk : PySem.W.Frag → Bool} {fa : List He.Fa} {fn : List DfX} {K : PySem.W.Frag} (c : SaysX chk fa fn K) (i : Nat) {f : He.Fa} (h : fa[i]? = some f := by rfl) : f.ok K = true := by
  have c1 := (He.ba (show ((fa.all fun f => f.ok K) && fn.all fun d => d.ok K) = true from congrArg (fun z : AlX => z.2.1) c)).1
  exact List.all_eq_true.mp c1 f (List.mem_of_getElem? h)
theorem SaysX.def_ {chk : PySem.W.Frag → Bool} {fa : List He.Fa} {fn : List DfX} {K : PySem.W.Frag} (c : SaysX chk fa fn K) (i : Nat) {d : DfX} (h : fn[i]? = some d := by rfl) : ∃ fd, FunD K d.name d.qual d.params d.body d.scope (d.dvs K) (d.kws K) (d.at_ K) fd := by
  have c2 := (He.ba (show ((fa.all fun f => f.ok K) && fn.all fun d => d.ok K) = true from congrArg (fun z : AlX => z.2.1) c)).2
  have e : fn.map (fun d => He5.fnA K (d.at_ K)) = fn.map He5.DefA.val := congrArg (fun z : AlX => z.2.2) c
  have e2 : (fn.map fun d => He5.fnA K (d.at_ K))[i]? = (fn.map He5.DefA.val)[i]? := by rw [e]
  rw [List.getElem?_map, List.getElem?_map, h] at e2
  exact He5.DefA.funD (Option.some.inj e2) (List.all_eq_true.mp c2 d (List.mem_of_getElem? h))
/-- class methods, properties -/
theorem ClsD.cm (h : d.ok K = true) {m : Str} (e : m ∈ d.cms) : ClX.CRead K (He.ga K d.nm) (.type "type") ∧ ClX.CMet K (He.ga K d.nm) (.type "type") m (He.ma K (He.ga K d.nm) m) (He5.wf K (He.ga K d.nm) "classmethod" m) := by
  have h := List.all_eq_true.mp (He.ba (He.ba h).1).1 m e
  obtain ⟨a, h⟩ := He.ba h
  obtain ⟨b, h⟩ := He.ba h
  obtain ⟨c, h⟩ := He.ba h
  exact ⟨⟨c, He.eqO_ok h⟩, He5.cmet_of a b⟩
theorem ClsD.pr (h : d.ok K = true) {m : Str} (e : m ∈ d.prs) : PropOf K (He.ga K d.nm) m (He.ma K (He.ga K d.nm) m) (He5.wf K (He.ga K d.nm) "property" m) := by
  have h := List.all_eq_true.mp (He.ba (He.ba h).1).2 m e
  obtain ⟨a, h⟩ := He.ba h
  obtain ⟨b, h⟩ := He.ba h
  obtain ⟨c, h⟩ := He.ba h
  refine ⟨He.eqO_ok a, He.eqO_ok b, of_decide_eq_true c, ?_⟩
  unfold He5.wf
  split at h
  · rename_i f r e
    exact ⟨r, by rw [e]⟩
  · cases h
end Ev
namespace Ev
open PySem PySem.Spec PyProof.Rows L2
def tm (W : Wd) (mx : Nat → Option Nat) (c : Nat) : Option Nat := match memB c W.cl with
  | true => (match mx c with
    | some f => (match memB f W.fl with
      | true => some f
      | false => none)
    | none => none)
  | false => none
def tmd (W : Wd) (mx : Nat → Option (Nat × List Int)) (c : Nat) : Option (Nat × List Int) := match memB c W.cl with
  | true => (match mx c with
    | some p => (match memB p.1 W.fl with
      | true => some p
      | false => none)
    | none => none)
  | false => none
theorem tm_mem {W : Wd} {mx : Nat → Option Nat} {c f : Nat} (h : tm W mx c = some f) : c ∈ W.cl := by
  unfold tm at h
  cases e : memB c W.cl with
  | true => exact memB_mem e
  | false => rw [e] at h; cases h
theorem tmd_mem {W : Wd} {mx : Nat → Option (Nat × List Int)} {c : Nat} {p : Nat × List Int} (h : tmd W mx c = some p) : c ∈ W.cl := by
  unfold tmd at h
  cases e : memB c W.cl with
  | true => exact memB_mem e
  | false => rw [e] at h; cases h
section
variable {X : Cx} {cl : List Nat} {cd : Nat → ClsD} {fnm : Nat → Str × Option Str} {fds : Nat → FuncData} {PS : Nat → List Str} {call : CallT} {k c f : Nat} {m : Str} {di : List Int}
theorem mtOk_of (h : chkC cl cd X.K = true) (hc : c ∈ cl) (hm : m ∈ (cd c).meths) (hf : fnm f = ((cd c).nm, some m)) (ok : FnOk X.prog X.w X.K X.mg X.base CX0 k (faK fnm X.K f) (fds f) (PS f) (spF (gl X (faK fnm X.K) (fcK cd X.K)) call f))
    (bi : ∃ ds, Binds X.K (fds f) (PS f) ds ∧ Vals (dV di) ds) (hn : Nat.ble 1000 f = false := by rfl) (nv : m ∉ plainNm c := by decide) : MtOk X (faK fnm X.K) (fcK cd X.K) fds PS call k m c f di := by
  have e : faK fnm X.K f = He.ma X.K (He.ga X.K (cd c).nm) m := by unfold faK; rw [hn, hf] <;> rfl
  have t := ClsD.meth (chkC_at h hc) hm
  exact ⟨ClsD.scls (chkC_at h hc), nv, by rw [e]; exact t.1, ok, bi, by rw [e]; exact t.2⟩
theorem eqOk_of {mt : Nat → Option Nat} (h : chkC cl cd X.K = true) (hc : c ∈ cl) (mo : MtOk X (faK fnm X.K) (fcK cd X.K) fds PS call k "__eq__" c f []) (hmt : ∀ c' f', mt c' = some f' → c' ∈ cl) : EqOk X (faK fnm X.K) (fcK cd X.K) fds PS call k mt c f :=
  let q := ClsD.eq_ (chkC_at h hc)
  ⟨mo, q.1, q.2.1, q.2.2.1, fun c' f' e => (chkC_pair h hc (hmt c' f' e)).2⟩
end
section
variable {K : PySem.W.Frag} {cl : List Nat} {cd : Nat → ClsD} {fnm : Nat → Str × Option Str} {c f : Nat} {m : Str}
end
theorem alen_nil : ∀ (e : En) (A : Hs) (xs : List AV) (A' : Hs), aNil e A = .ok xs A' → xs.length = 0 := fun e A xs A' h => by cases h; rfl
theorem alen_cons {c : CE} {r : CA} {n : Nat} (h : ∀ (e : En) (A : Hs) (xs : List AV) (A' : Hs), r e A = .ok xs A' → xs.length = n) : ∀ (e : En) (A : Hs) (xs : List AV) (A' : Hs), aCons c r e A = .ok xs A' → xs.length = n + 1 := fun e A xs A' q => by
  unfold aCons at q
  split at q
  · rename_i v B e1
    split at q
    · rename_i ys _ e2
      cases q
      rw [List.length_cons, h e B ys _ e2]
    · cases q
  · cases q
def vListU (call : CallT) (ix mt : Nat → Option Nat) (x : AV) (A : Hs) : R := match insOf A x with
  | some _ => vListO kLst call ix mt x A
  | none => vList x A
def vListUM (call : CallT) (ix mt : Nat → Option Nat) (x : AV) (A : Hs) : R := match insOf A x with
  | some _ => vListO kLstM call ix mt x A
  | none => vListM x A
section
variable {X : Cx} {fa fc : Nat → Addr} {fds : Nat → FuncData} {PS : Nat → List Str} {call : CallT} {k : Nat} {ix mt : Nat → Option Nat}
theorem cv_listU (T : ∀ c i, ix c = some i → ItrC X.K X.mg (fc c) c i) (T2 : ∀ c f, mt c = some f → MtOk X fa fc fds PS call k "__len__" c f []) (hr : Room (k + 3) X.A) (hr3 : Room 5 X.A) (hcalm : X.calm = true) : CallR X (.type "list") (rAs (gl X fa fc) (on1 (vListU call ix mt))) := by
  rintro pins s σ H xs us Q I r ⟨ws, ρ, A, rel, vr, w, A', hf0, kon⟩
  obtain ⟨x, rfl, hf⟩ := on1_ok hf0
  unfold vListU at hf
  split at hf
  · exact cv_listOk kLst_k T T2 hr hr3 hcalm pins s σ H xs us Q I r ⟨[x], ρ, A, rel, vr, w, A', hf, kon⟩
  · exact cv_list fa fc pins s σ H xs us Q I r ⟨[x], ρ, A, rel, vr, w, A', hf, kon⟩
theorem cv_listUM (T : ∀ c i, ix c = some i → ItrC X.K X.mg (fc c) c i) (T2 : ∀ c f, mt c = some f → MtOk X fa fc fds PS call k "__len__" c f []) (hr : Room (k + 3) X.A) (hr3 : Room 5 X.A) (hcalm : X.calm = true) : CallR X (.type "list") (rAs (gl X fa fc) (on1 (vListUM call ix mt))) := by
  rintro pins s σ H xs us Q I r ⟨ws, ρ, A, rel, vr, w, A', hf0, kon⟩
  obtain ⟨x, rfl, hf⟩ := on1_ok hf0
  unfold vListUM at hf
  split at hf
  · exact cv_listOk kLstM_k T T2 hr hr3 hcalm pins s σ H xs us Q I r ⟨[x], ρ, A, rel, vr, w, A', hf, kon⟩
  · exact cv_listM fa fc pins s σ H xs us Q I r ⟨[x], ρ, A, rel, vr, w, A', hf, kon⟩
end
def bEq : Bool → Bool → Bool
  | true, true => true
  | false, false => true
  | _, _ => false
def vIsC (x y : AV) (A : Hs) : R := match y with
  | .bl c => (match x with
    | .bl b => .ok (.bl (bEq b c)) A
    | _ => .bad)
  | y => vIsN x y A
def vNotC (x y : AV) (A : Hs) : R := match y with
  | .bl c => (match x with
    | .bl b => .ok (.bl (!bEq b c)) A
    | _ => .bad)
  | y => vNotN x y A
section
variable {X : Cx} {G : Gl}
end
end Ev
namespace Ev
open PySem PySem.Spec PyProof.Rows L2
inductive Tr where
  | lf
  | nd (l : Tr) (k : Nat) (v : FnC) (r : Tr)
def Tr.look : Tr → Nat → Option FnC
  | .lf, _ => none
  | .nd l k v r, i => match Nat.beq i k with
    | true => some v
    | false => (match Nat.blt i k with
      | true => l.look i
      | false => r.look i)
def Tr.keys : Tr → List Nat
  | .lf => []
  | .nd l k _ r => l.keys ++ k :: r.keys
theorem Tr.look_keys {i : Nat} {fc : FnC} : ∀ {t : Tr}, t.look i = some fc → i ∈ t.keys
  | .lf, h => by cases h
  | .nd l k v r, h => by
    unfold Tr.look at h
    unfold Tr.keys
    cases e : Nat.beq i k with
    | true => rw [Nat.eq_of_beq_eq_true e]; exact List.mem_append_right _ List.mem_cons_self
    | false =>
      rw [e] at h
      dsimp only at h
      cases e2 : Nat.blt i k with
      | true => rw [e2] at h; exact List.mem_append_left _ (look_keys h)
      | false => rw [e2] at h; exact List.mem_append_right _ (List.mem_cons_of_mem _ (look_keys h))
def tmi (W : Wd) (mx : Nat → Option (Nat × Nat)) (c : Nat) : Option Nat := match memB c W.cl with
  | true => (match mx c with
    | some p => (match memB p.1 W.fl with
      | true => some p.2
      | false => none)
    | none => none)
  | false => none
theorem tmi_mem {W : Wd} {mx : Nat → Option (Nat × Nat)} {c i : Nat} (h : tmi W mx c = some i) : c ∈ W.cl := by
  unfold tmi at h
  cases e : memB c W.cl with
  | true => exact memB_mem e
  | false => rw [e] at h; cases h
end Ev
namespace Ev
open PySem PySem.Spec PyProof.Rows L2
def insU (x : Int) : List Int → List Int
  | [] => [x]
  | y :: r => match decide (x < y) with
    | true => x :: y :: r
    | false => (match decide (x = y) with
      | true => y :: r
      | false => y :: insU x r)
def sortU : List Int → List Int
  | [] => []
  | x :: r => insU x (sortU r)
def tSortSet (K : PySem.W.Frag) (ta : TE) : TE := fun σ H Q => ta σ H fun x H1 => ∃ (l : Addr) (ns : List Int), x = V.ref l ∧ SqT K H1 l (ns.map V.int) ∧ ns.length < 64 ∧ ∀ p, H1 p = none → Q (.ref p) (upd H1 p (.lst ((sortU ns).map V.int)))
def vSortSet (x : AV) (A : Hs) : R := match x with
  | .tup xs => (match intsOf xs with
    | some ns => guard' (Nat.blt ns.length 64) (.ok (.lst ((sortU ns).map .int)) A)
    | none => .bad)
  | _ => .bad
def vSortSetM (x : AV) (A : Hs) : R := match x with
  | .tup xs => (match intsOf xs with
    | some ns => guard' (Nat.blt ns.length 64) (.ok (.ref A.length) (A ++ [.lst ((sortU ns).map .int)]))
    | none => .bad)
  | _ => .bad
section
variable {G : Gl} {X : Cx} {a o i : Expr} {ca co ci : CE} {p p2 q pos tpos : Pos} {σ : L2.St} {H : Hp} {Q : VK} {fa fc : Nat → Addr}
def rGetL (K : PySem.W.Frag) : V → V → Hp → VK → Prop := fun o i H Q => ∃ p xs k v, o = .ref p ∧ i = .int k ∧ SqL K H p xs ∧ 0 ≤ k ∧ xs[k.toNat]? = some v ∧ Q v H
def sAugS (o i : CE) (f : AV → AV → Hs → R) (c : CE) : CS := fun e A => match o e A with
  | .ok x A => (match i e A with
    | .ok y A => (match x with
      | .ref j => (match y with
        | .int k => (match A[j]? with
          | some (.lst xs) => (match decide (0 ≤ k) with
            | true => (match xs[k.toNat]? with
              | some .und => .bad
              | some v => (match c e A with
                | .ok w A => (match f v w A with
                  | .ok z A => (match A[j]? with
                    | some (.lst ys) => (match ixN ys.length k with
                      | some m => .nx e (A.set j (.lst (ys.set m z)))
                      | none => .bad)
                    | _ => .bad)
                  | .bad => .bad)
                | .bad => .bad)
              | none => .bad)
            | false => .bad)
          | _ => .bad)
        | _ => .bad)
      | _ => .bad)
    | .bad => .bad)
  | .bad => .bad
end
def sCase (c : Str) (b r : CS) : AV → CS := fun v e A => match v with
  | .str z => (match decide (z = c) with
    | true => b e A
    | false => r e A)
  | _ => .bad
end Ev
namespace Ev
open PySem PySem.Spec PyProof.Rows L2
variable {X : Cx} {G : Gl} {fa ca : Nat → Addr}
def vCatM (x y : AV) (A : Hs) : R := match lstOf A x with
  | some xs => (match lstOf A y with
    | some ys => guard' (line (xs.length + ys.length)) (.ok (.ref A.length) (A ++ [.lst (xs ++ ys)]))
    | none => .bad)
  | none => .bad
theorem ov_catM : OpR X (binaryOp .Add) (rOp (gl X fa ca) vCatM) := by
  rintro pins s σ H x y v u Q I rx ry ⟨a, b, ρ, A, rel, vr, w, A', hf, k⟩
  obtain ⟨h1, h2⟩ := two vr
  unfold vCatM at hf
  split at hf
  · rename_i xs e1
    split at hf
    · rename_i ys e2
      obtain ⟨hg, e⟩ := guard_ok hf
      cases e
      obtain ⟨l, us, rfl, q1, v1⟩ := lstOf_ok rel h1 e1
      obtain ⟨l2, ws, rfl, q2, v2⟩ := lstOf_ok rel h2 e2
      exact op_cat pins s σ H _ _ v u Q I rx ry ⟨l, l2, us, ws, rfl, rfl, q1, q2, by rw [← v1.length, ← v2.length]; exact line_ok hg, Kon.cell rel k (v1.append v2)⟩
    · cases hf
  · cases hf
def vRepM (x y : AV) (A : Hs) : R := match y with
  | .int k => (match lstOf A x with
    | some xs => guard' (decide (-9223372036854775808 ≤ k) && decide (k < 9223372036854775808) && line (xs.length * k.toNat)) (.ok (.ref A.length) (A ++ [.lst (List.replicate k.toNat xs).flatten]))
    | none => .bad)
  | _ => .bad
def vAddM (x y : AV) (A : Hs) : R := match lstOf A x with
  | some _ => vCatM x y A
  | none => vAdd x y A
theorem ov_addM (fa ca : Nat → Addr) : OpR X (binaryOp .Add) (rOp (gl X fa ca) vAddM) := by
  rintro pins s σ H x y v u Q I rx ry ⟨a, b, ρ, A, rel, vr, w, A', hf, k⟩
  unfold vAddM at hf
  split at hf
  · exact ov_catM pins s σ H x y v u Q I rx ry ⟨a, b, ρ, A, rel, vr, w, A', hf, k⟩
  · exact ov_add fa ca pins s σ H x y v u Q I rx ry ⟨a, b, ρ, A, rel, vr, w, A', hf, k⟩
def vMulM (x y : AV) (A : Hs) : R := match lstOf A x with
  | some _ => vRepM x y A
  | none => vMul x y A
def vIntB (x : AV) (A : Hs) : R := match x with
  | .int i => .ok (.int i) A
  | .bl b => .ok (.int (match b with | true => 1 | false => 0)) A
  | _ => .bad
theorem cv_intB : CallR X (.type "int") (rAs G (on1 vIntB)) := by
  refine callR1 call_int1 fun x v H Q ρ A w A' rel hv hf k => ?_
  cases hv with
  | int => cases hf; exact .inl ⟨_, rfl, kon0 rel k .int⟩
  | @bl _ b =>
    cases hf
    refine .inr ⟨b, rfl, ?_⟩
    have := kon0 rel k .int
    cases b <;> exact this
  | _ => cases hf
theorem ats {its : List Value} {ns : List Int} (h : IntsAre its ns) (j : Nat) (hj : j < its.toArray.size) : ∃ t, its.toArray[j] = .int (ns.getD j 0) t := PyProof.Rows.IntsAre.int_at h _ _ (by simp at hj; simp [hj])
def eqJ (ns ms : List Int) (j : Nat) : Bool := decide (ns.getD j 0 = ms.getD j 0)
theorem eqJ_at {A : Around} {s : Shared} {i1 i2 : List Value} {ns ms : List Int} (h1 : IntsAre i1 ns) (h2 : IntsAre i2 ms) (j : Nat) (l1 : j < i1.toArray.size) (l2 : j < i2.toArray.size) : SeqAt.EqAt A s i1.toArray[j] i2.toArray[j] (eqJ ns ms j) := by
  obtain ⟨t, e⟩ := ats h1 j l1
  obtain ⟨t', e'⟩ := ats h2 j l2
  rw [e, e']
  have z : eqJ ns ms j = (ns.getD j 0 == ms.getD j 0) := by
    unfold eqJ
    rw [Bool.eq_iff_iff, decide_eq_true_iff, beq_iff_eq]
  rw [z]
  exact SeqAt.EqAt.int_int _ _ _ _
theorem sz {its : List Value} {ns : List Int} (h : IntsAre its ns) : its.toArray.size = ns.length := List.size_toArray.trans h.length
def cmpT (c : Int → Int → Bool) (z : Nat → Nat → Bool) (ns ms : List Int) : Bool := Ob.lexAt (eqJ ns ms) (fun j => c (ns.getD j 0) (ms.getD j 0)) (z ns.length ms.length) 0 (min ns.length ms.length)
def cLtI (a b : Int) : Bool := decide (a < b)
def cLeI (a b : Int) : Bool := decide (a ≤ b)
def cGtI (a b : Int) : Bool := decide (b < a)
def cGeI (a b : Int) : Bool := decide (b ≤ a)
def cLtN (a b : Nat) : Bool := decide (a < b)
def cLeN (a b : Nat) : Bool := decide (a ≤ b)
def cGtN (a b : Nat) : Bool := decide (a > b)
def cGeN (a b : Nat) : Bool := decide (a ≥ b)
theorem rcT {op : CmpOp} {c : Int → Int → Bool} {z : Nat → Nat → Bool} (hu : X.A.units < cLine)
    (hop : ∀ {A : Around} {s : Shared} (a b : Int) (t u : Tok), Ob.RcOp op A s (.int a t) (.int b u) (c a b))
    (ht : ∀ {A : Around} {s : Shared} {l b : Addr} {i1 i2 : Array Value} {e r : Nat → Bool}, s.heap.IsTuple l i1 → s.heap.IsTuple b i2 → A.units < cLine → (∀ j (h1 : j < i1.size) (h2 : j < i2.size), SeqAt.EqAt A.in1 s i1[j] i2[j] (e j)) →
      (∀ j (h1 : j < i1.size) (h2 : j < i2.size), e j = false → Ob.RcOp op A.in1 s i1[j] i2[j] (r j)) → Ob.RcOp op A s (.ref l) (.ref b) (Ob.lexAt e r (z i1.size i2.size) 0 (min i1.size i2.size)))
    (hrc : ∀ {x y : Value} {Q : Value → Shared → Prop} {s : Shared}, wpAny (model X.prog X.w) X.A (richCompare op x y) Q X.xe s → wpAny (model X.prog X.w) X.A (compareOp op x y) Q X.xe s)
    {pins : List (Addr × Obj)} {s : Shared} {σ : L2.St} {H : Hp} {a b : Addr} {ns ms : List Int} {Q : VK} (I : Inv X pins σ H s) (ha : SqT X.K H a (ns.map V.int)) (hb : SqT X.K H b (ms.map V.int)) (q : Q (.bl (cmpT c z ns ms)) H) :
    wpAny (model X.prog X.w) X.A (compareOp op (.ref a) (.ref b)) (EP X pins σ Q) X.xe s := by
  obtain ⟨i1, r1, p1, _⟩ := I.tuple ha
  obtain ⟨i2, r2, p2, _⟩ := I.tuple hb
  have g1 : IntsAre i1 ns := Vals.ints r1
  have g2 : IntsAre i2 ms := Vals.ints r2
  have W := ht (A := X.A) (s := s) (e := eqJ ns ms) (r := fun j => c (ns.getD j 0) (ms.getD j 0)) p1 p2 hu (fun j l1 l2 => eqJ_at g1 g2 j l1 l2) (fun j l1 l2 _ => by
    obtain ⟨t, e⟩ := ats g1 j l1
    obtain ⟨t', e'⟩ := ats g2 j l2
    rw [e, e']
    exact hop _ _ _ _)
  rw [sz g1, sz g2] at W
  exact hrc (W X.prog X.w X.xe (EP X pins σ Q) ⟨.bl _, H, I, rfl, q⟩)
def vT (c : Int → Int → Bool) (z : Nat → Nat → Bool) (f : AV → AV → Hs → R) (x y : AV) (A : Hs) : R := match x with
  | .tup xs => (match y with
    | .tup ys => (match intsOf xs, intsOf ys with
      | some ns, some ms => .ok (.bl (cmpT c z ns ms)) A
      | _, _ => .bad)
    | _ => .bad)
  | x => f x y A
theorem ov_T {op : CmpOp} {c : Int → Int → Bool} {z : Nat → Nat → Bool} {f : AV → AV → Hs → R} (h0 : OpR X (compareOp op) (rOp (gl X fa ca) f))
    (h : ∀ {pins : List (Addr × Obj)} {s : Shared} {σ : L2.St} {H : Hp} {a b : Addr} {ns ms : List Int} {Q : VK}, Inv X pins σ H s → SqT X.K H a (ns.map V.int) → SqT X.K H b (ms.map V.int) → Q (.bl (cmpT c z ns ms)) H →
      wpAny (model X.prog X.w) X.A (compareOp op (.ref a) (.ref b)) (EP X pins σ Q) X.xe s) : OpR X (compareOp op) (rOp (gl X fa ca) (vT c z f)) := by
  rintro pins s σ H x y v u Q I rx ry ⟨a, b, ρ, A, rel, vr, w, A', hf, k⟩
  obtain ⟨h1, h2⟩ := two vr
  unfold vT at hf
  split at hf
  · split at hf
    · rename_i xs ys
      split at hf
      · rename_i ns ms e1 e2
        cases hf
        obtain ⟨l, vs, rfl, f1, v1⟩ := tupOf_ok h1 rfl
        obtain ⟨l2, vs2, rfl, f2, v2⟩ := tupOf_ok h2 rfl
        obtain ⟨rfl, _⟩ := intsOf_ok v1 e1
        obtain ⟨rfl, _⟩ := intsOf_ok v2 e2
        cases rx
        cases ry
        exact h I f1.sq f2.sq (kon0 rel k .bl)
      · cases hf
    · cases hf
  · exact h0 pins s σ H x y v u Q I rx ry ⟨_, b, ρ, A, rel, vr, w, A', hf, k⟩
def vLtT := vT cLtI cLtN vLt
def vLeT := vT cLeI cLeN vLe
def vGtT := vT cGtI cGtN vGt
def vGeT := vT cGeI cGeN vGe
theorem ov_ltT (fa ca : Nat → Addr) (hu : X.A.units + 65 < cLine) : OpR X (compareOp .Lt) (rOp (gl X fa ca) vLtT) := ov_T ov_lt (rcT (by omega) Ob.RcOp.lt_int Ob.RcOp.tuples_lt fun h => h)
theorem ov_leT (fa ca : Nat → Addr) (hu : X.A.units + 65 < cLine) : OpR X (compareOp .LtE) (rOp (gl X fa ca) vLeT) := ov_T ov_le (rcT (by omega) Ob.RcOp.le_int Ob.RcOp.tuples_le fun h => h)
def vMulI : AV → AV → Hs → R := on2I fun i j A => guard' (mulOk i j) (.ok (.int (i * j)) A)
end Ev
namespace Ev
open PySem PySem.Spec PyProof.Rows L2
/-- a lambda with one parameter: its names -/
structure LamP (sc scope : Scope) (p : Str) : Prop where
  kind : scope.kind = .function
  co : scope.isCoroutine = false
  gen : scope.isGenerator = false
  par : scope.names.lookup p = some .local
  own : ∀ y ∈ scope.names, y.2 ≠ .cell
  loc : ∀ y ∈ scope.names, y.2 = .local → y.1 = p
  free : ∀ y ∈ scope.names, y.2 = .free → sc.names.lookup y.1 = some .cell ∨ sc.names.lookup y.1 = some .free
def lamPB (sc scope : Scope) (p : Str) : Bool :=
  decide (scope.kind = .function) && (!scope.isCoroutine && (!scope.isGenerator && (decide (scope.names.lookup p = some .local) &&
    scope.names.all fun y => !decide (y.2 = .cell) && ((!decide (y.2 = .local) || decide (y.1 = p)) && (!decide (y.2 = .free) || (decide (sc.names.lookup y.1 = some .cell) || decide (sc.names.lookup y.1 = some .free)))))))
theorem lamP_by {sc scope : Scope} {p : Str} (h : lamPB sc scope p = true) : LamP sc scope p := by
  unfold lamPB at h
  simp only [Bool.and_eq_true, Bool.or_eq_true, Bool.not_eq_true', decide_eq_true_eq, decide_eq_false_iff_not, List.all_eq_true] at h
  obtain ⟨h1, h2, h3, h4, h5⟩ := h
  refine ⟨h1, h2, h3, h4, fun y hy => (h5 y hy).1, fun y hy e => ?_, fun y hy e => ?_⟩
  · rcases (h5 y hy).2.1 with z | z
    · exact absurd e z
    · exact z
  · rcases (h5 y hy).2.2 with z | z
    · exact absurd e z
    · exact z
abbrev lamE (X : Cx) (scope : Scope) (L f c' : Addr) : Env := PySem.W.envX (X.env.qual ++ "<lambda>") scope L f (.ref c') (cloFrom X.env.cells scope.names [])
/-- where the lambda's body runs -/
def lamC (X : Cx) (A : Around) (outer : List Env) (s : Shared) (H : Hp) (scope : Scope) (f c' : Addr) : Cx where
  prog := X.prog
  w := X.w
  K := X.K
  mg := X.mg
  base := X.base
  A := A.deeper (lamE X scope s.heap.objs.size f c')
  N := X.N
  s_0 := s
  H_0 := H
  env := lamE X scope s.heap.objs.size f c'
  outer := outer
  stack := lamE X scope s.heap.objs.size f c' :: outer
  ex := []
  fn := fun _ => false
  calm := true
  pn := []
  xe := fun _ _ => False
abbrev lamO (X : Cx) (params : Arguments) (body : Expr) (scope : Scope) (pm : Value) (c' : Addr) (ctv : Value) : Obj :=
  PySem.W.kla_obj "<lambda>" (X.env.qual ++ "<lambda>") params body scope (cloFrom X.env.cells scope.names []) pm c' ctv
section
variable {X : Cx} {pins : List (Addr × Obj)} {σ : L2.St} {H : Hp} {s : Shared}
theorem LamP.has {scope : Scope} {p : Str} (L : LamP X.env.scope scope p) (ok : X.Ok) : ∀ y ∈ scope.names, y.2 = .free → ∃ c, X.env.cells.lookup y.1 = some c := fun y hy e =>
  ok.has _ (L.free y hy e)
/-- how the abstract heap goes on when a lambda is made -/
def LamH (H : Hp) (P : Addr) (q : Str) (c' : Addr) (H1 : Hp) : Prop :=
  (H1 = H ∧ ∃ ps : Array Value, H P = some (.tbl ps) ∧ ∃ pos, codeAmong pos ps.toList = some (.ref c')) ∨
  (H c' = none ∧ ∃ (ps : Array Value) (pos : Pos), H P = some (.tbl ps) ∧ H1 = upd (upd H P (.tbl (ps ++ #[rawInt pos.line, rawInt pos.col, .ref c']))) c' (LamX.CodeO c' q))
theorem lam_mk {c P : Addr} {q : Str} {ps : Array Value} {params : Arguments} {body : Expr} {scope : Scope} {pos : Pos} {E : Value → Shared → Prop} {Z : Value → Shared → Prop} (I : Inv X pins σ H s) (TB : LamX.TabB X.base X.mg c P) (hcode : X.env.code = .ref c)
    (hq : X.env.qual ++ "<lambda>" = q) (hP : H P = some (.tbl ps)) (ht : TriplesOk ps.toList) (ha : ∀ (pos : Pos) (cv : Value), codeAmong pos ps.toList = some cv → ∃ c0, cv = .ref c0 ∧ H c0 = some (LamX.CodeO c0 q))
    (hdef : defaultsOf params X.env = ([], [])) (hfree : ∀ y ∈ scope.names, y.2 = .free → ∃ c, X.env.cells.lookup y.1 = some c)
    (k : ∀ (f c' : Addr) (pm ctv : Value) (H1 : Hp) (t : Shared), Inv X pins σ H1 t → LamH H P q c' H1 → t.heap.get? f = some (lamO X params body scope pm c' ctv) → H1 f = none → f ∉ frs X.stack → H1 c' = some (LamX.CodeO c' q) → Z (.ref f) t) :
    wpAny (model X.prog X.w) X.A (eval (.Lambda params body scope pos) X.env) Z E s := by
  have tb1 : s.heap.BuiltinsAt X.mg P := TB.bm.keeps I.bk
  have tb2 : s.heap.get? P = some { cls := .none, data := .fields ps } := I.hok P _ hP
  have nf : ∀ f, s.heap.objs.size ≤ f → f ∉ frs X.stack := fun f hf z => (List.mem_cons.mp (I.stkSub _ z)).elim (fun e => by have h1 := I.lt; rw [← e] at h1; exact Nat.lt_irrefl _ (Nat.lt_of_lt_of_le h1 hf)) fun e => I.nofs hf e
  refine PySem.W.kla_eval hdef ?_
  cases hc : codeAmong pos ps.toList with
  | some cv =>
    obtain ⟨c', rfl, hco⟩ := ha pos cv hc
    exact PySem.W.kla_makeFunctionHit (mg := X.mg) (c := c) (P := P) (ps := ps) (closure_ok hfree) I.ok.glob (I.mod.glob.keeps I.bk) hcode (TB.code.keeps I.bk) tb2 ht hc tb1 fun ctv h' tk hx hs =>
      k h'.objs.size c' ((X.mg "__name__").getD .none) ctv H _ (I.kept fun b o e => Heap.get?_push_of_some _ (hx b o e)) (.inl ⟨rfl, ps, hP, pos, hc⟩) (Heap.get?_push_size _ rfl) (I.hok.fresh hs) (nf _ hs) hco
  | none =>
    refine PySem.W.kla_makeFunction (mg := X.mg) (c := c) (P := P) (ps := ps) (closure_ok hfree) I.ok.glob (I.mod.glob.keeps I.bk) hcode (TB.code.keeps I.bk) tb2 ht hc TB.gP tb1 fun c' ctv h' tk hx hge hlt hrec htb => ?_
    obtain ⟨c2, oc, vs, t, e2, hoc, hd, hv⟩ := hrec
    cases e2
    have hs : s.heap.objs.size ≤ h'.objs.size := by omega
    have nC : H c' = none := I.hok.fresh hge
    refine k h'.objs.size c' ((X.mg "__name__").getD .none) ctv (upd (upd H P (.tbl (ps ++ #[rawInt pos.line, rawInt pos.col, .ref c']))) c' (LamX.CodeO c' q)) _ (LamX.inv_table (more := #[rawInt pos.line, rawInt pos.col, .ref c']) I hP (fun b o hb e => Heap.get?_push_of_some _ (hx b o hb e)) (Heap.get?_push_of_some _ htb) hge ⟨oc, vs, t, Heap.get?_push_of_some _ hoc, hd, hq ▸ hv⟩)
      (.inr ⟨nC, ps, pos, hP, rfl⟩) (Heap.get?_push_size _ rfl) ?_ (nf _ hs) upd_same
    have n2 : h'.objs.size ≠ P := Nat.ne_of_gt (Nat.lt_of_lt_of_le (Heap.lt_size tb2) hs)
    rw [upd_ne (show h'.objs.size ≠ c' by omega), upd_ne n2]
    exact I.hok.fresh hs
end
section
variable {G : Gl} {ρ : Rho} {A : Hs} {H H1 : Hp}
theorem set_at {α : Type} : ∀ {l : List α} {t : Nat} {x : α}, l[t]? = some x → l.set t x = l
  | [], _, _, h => by simp at h
  | y :: l, 0, x, h => by simp at h; subst h; rfl
  | y :: l, t + 1, x, h => by simp at h; simp [set_at h]
theorem tab_at (r : Rel G ρ A H) {t i : Nat} (hA : A[t]? = some (.tab i)) : ∃ p, ρ.c[t]? = some p ∧ p.2 = p.1 ∧ p.1 = G.fa (i + 1000) ∧ TabR ρ H p.1 (tabNm i) := by
  have hl : t < ρ.c.length := by rw [r.len]; exact (List.getElem?_eq_some_iff.mp hA).1
  exact ⟨ρ.c[t], List.getElem?_eq_getElem hl, r.cell t _ _ hA (List.getElem?_eq_getElem hl)⟩
theorem lam_rel (r : Rel G ρ A H) {t i : Nat} (hA : A[t]? = some (.tab i)) {P c' : Addr} (hP : P = G.fa (i + 1000)) (h : LamH H P (tabNm i) c' H1) : Ext ρ H ρ H1 ∧ Rel G ρ A H1 := by
  rcases h with ⟨rfl, _⟩ | ⟨nC, ps, pos, hT, rfl⟩
  · exact ⟨Ext.refl _ _, r⟩
  obtain ⟨p, hp, e2, e1, ps', t1, t2, t3⟩ := tab_at r hA
  rw [← hP] at e1
  subst e1
  rw [hT] at t1
  cases t1
  have nP : p.1 ≠ c' := ne_of_none hT nC
  have ec : upd (upd H p.1 (.tbl (ps ++ #[rawInt pos.line, rawInt pos.col, .ref c']))) c' (LamX.CodeO c' (tabNm i)) = upd (upd H c' (LamX.CodeO c' (tabNm i))) p.1 (.tbl (ps ++ #[rawInt pos.line, rawInt pos.col, .ref c'])) := by
    funext b
    by_cases h1 : b = c'
    · rw [h1, upd_same, upd_ne (Ne.symm nP), upd_same]
    · by_cases h2 : b = p.1
      · rw [h2, upd_ne nP, upd_same, upd_same]
      · rw [upd_ne h1, upd_ne h2, upd_ne h2, upd_ne h1]
  rw [ec]
  have r0 : Rel G ρ A (upd H c' (LamX.CodeO c' (tabNm i))) := r.new nC _
  have x0 : Ext ρ H ρ (upd H c' (LamX.CodeO c' (tabNm i))) := ext_new nC _
  have x1 : Ext ρ (upd H c' (LamX.CodeO c' (tabNm i))) ρ (upd (upd H c' (LamX.CodeO c' (tabNm i))) p.1 (.tbl (ps ++ #[rawInt pos.line, rawInt pos.col, .ref c']))) := ext_on (onC_of hp).1 _
  refine ⟨x0.trans r0 x1, ?_⟩
  rw [← set_at hA]
  refine r0.setC hp x1 (fun a h1 _ => upd_ne h1) ⟨e2, hP, _, upd_same, ?_, fun pos' cv hc => ?_⟩
  · rw [show (ps ++ #[rawInt pos.line, rawInt pos.col, .ref c']).toList = ps.toList ++ [rawInt pos.line, rawInt pos.col, .ref c'] by simp]
    exact PySem.TriplesOk_snoc _ _ _ _ t2
  · rw [show (ps ++ #[rawInt pos.line, rawInt pos.col, .ref c']).toList = ps.toList ++ [rawInt pos.line, rawInt pos.col, .ref c'] by simp] at hc
    rcases LamX.among_app _ t2 hc with z | z
    · obtain ⟨c0, a1, a2, a3⟩ := t3 pos' cv z
      have n1 : c0 ≠ c' := ne_of_none a2 nC
      have n2 : c0 ≠ p.1 := fun z => by
        rw [z, hT] at a2
        exact LamX.codeO_ne ps (Option.some.inj a2).symm
      exact ⟨c0, a1, by rw [upd_ne n2, upd_ne n1]; exact a2, a3⟩
    · exact ⟨c', z, by rw [upd_ne (Ne.symm nP), upd_same], r.not_on nC⟩
end
end Ev
namespace Ev
open PySem PySem.Spec PyProof.Rows L2
section
variable {X : Cx} {pins : List (Addr × Obj)} {σ : L2.St} {H : Hp} {s : Shared}
/-- the lambda's frame is laid -/
theorem lam_start {A : Around} {scope : Scope} {p : Str} {f c' : Addr} {h₁ : Heap} {tk j : Nat} {v : V} {u : Value} (I : Inv X pins σ H s) (L : LamP X.env.scope scope p) (e0 : Env0 X.prog X.w X.K X.mg X.base A X.stack s H) (hd : A.handled = none)
    (hj : X.N[j]? = some p) (hj2 : ∀ i, X.N[i]? = some p → i = j) (rv : RelV v u)
    (hns : h₁.Ns s.heap.objs.size fun y => [(p, u)].reverse.lookup y) (kp : ∀ b o, s.heap.get? b = some o → h₁.get? b = some o) :
    Inv (lamC X A X.stack s H scope f c') [] (σ.set j (some v)) H { s with heap := h₁, toks := tk } := by
  have hfree := L.has I.ok
  have back : ∀ {y c}, (cloFrom X.env.cells scope.names []).lookup y = some c → X.env.cells.lookup y = some c := fun {y c} e => by
    rcases cloFrom_mem (PySem.mem_of_lookup e) with hm | ⟨h1, h2⟩
    · cases hm
    · obtain ⟨c1, q⟩ := hfree _ h1 rfl
      replace q : X.env.cells.lookup y = some c1 := q
      rw [q] at h2
      rw [q, h2] <;> rfl
  have there : ∀ {y}, scope.names.lookup y = some .free → ∃ c, (cloFrom X.env.cells scope.names []).lookup y = some c := fun {y} hl =>
    mem_lookup (cloFrom_has (cells := X.env.cells) (acc := []) (PySem.mem_of_lookup hl))
  have ck : ∀ {c : Addr} {v : Option Value}, s.heap.IsCell c v → h₁.IsCell c v := fun ⟨o, ho, q⟩ => ⟨o, kp _ _ ho, q⟩
  have none_ : ∀ b : Addr, b ∉ (lamC X A X.stack s H scope f c').ex := fun b z => absurd (show b ∈ ([] : List Addr) from z) (by simp)
  have ok : (lamC X A X.stack s H scope f c').Ok :=
    { mod := e0.mod, kind := L.kind, glob := rfl, blt := rfl, above := Nat.le_refl _
      inj := fun y z c e1 e2 => I.ok.inj y z c (back e1) (back e2)
      has := fun y hy => by
        rcases (show scope.names.lookup y = some .cell ∨ scope.names.lookup y = some .free from hy) with hy | hy
        · exact absurd rfl (L.own _ (PySem.mem_of_lookup hy))
        · exact there hy
      cab := fun y c z _ => by cases (show false = true from z)
      hd := fun _ => hd
      frames := Around.frames_deeper e0.frames
      stk := .inr ⟨rfl, rfl⟩
      exf := fun b z => absurd z (none_ b)
      bs := e0.bs, bsz := e0.bsz
      noex := fun b _ _ => none_ b
      exfs := fun b z => absurd z (none_ b)
      funs := e0.funs, frf := e0.frf }
  refine { ok := ok, os := rfl, bare := e0.bare, base := Un.kept kp, loc := ⟨_, hns, fun i y v' e1 e2 e3 => ?_⟩, cell := fun y c e => ?_, free := e0.hok.fresh (Nat.le_refl _), freeC := fun y c e => I.freeC y c (back e), pin := fun q hq => absurd (show q ∈ ([] : List (Addr × Obj)) ++ [] from hq) (by simp), hok := e0.hok.kept kp, len := by rw [List.length_set]; exact I.len }
  · have e1 : X.N[i]? = some y := e1
    rcases (show Vis scope y from e3) with k | k | k
    · have hy : y = p := L.loc _ (PySem.mem_of_lookup k) rfl
      subst hy
      obtain rfl := hj2 i e1
      have hl : i < σ.length := by rw [I.len]; exact (List.getElem?_eq_some_iff.mp e1).1
      rw [List.getElem?_set_self hl] at e2
      cases e2
      exact ⟨u, rv, .inl ⟨k, by simp⟩⟩
    · exact absurd rfl (L.own _ (PySem.mem_of_lookup k))
    · have hne : j ≠ i := fun z => by
        subst z
        rw [hj] at e1
        cases e1
        rw [L.par] at k
        cases k
      rw [List.getElem?_set_ne hne] at e2
      obtain ⟨m, hn, hl⟩ := I.loc
      obtain ⟨w', r, q⟩ := hl i y v' e1 e2 ((L.free _ (PySem.mem_of_lookup k) rfl).elim (fun z => .inr (.inl z)) fun z => .inr (.inr z))
      obtain ⟨c2, h2⟩ := there k
      refine ⟨w', r, .inr ⟨.inr k, c2, h2, ?_⟩⟩
      have c1 := back h2
      rcases q with ⟨k', _⟩ | ⟨_, c3, e', z⟩
      · have k' : X.env.scope.names.lookup y = some .local := k'
        rcases L.free _ (PySem.mem_of_lookup k) rfl with k2 | k2
        · rw [show X.env.scope.names.lookup y = _ from k2] at k'
          cases k'
        · rw [show X.env.scope.names.lookup y = _ from k2] at k'
          cases k'
      · rw [c1] at e'
        cases e'
        exact ck z
  · obtain ⟨w', z⟩ := I.cell y c (back e)
    exact ⟨w', ck z⟩
/-- the lambda is called -/
theorem lam_call {A : Around} {scope : Scope} {p : Str} {f c' : Addr} {j k : Nat} {v : V} {u pm ctv : Value} {params : Arguments} {body : Expr} {tb : TE} {Q : VK} {E : Value → Shared → Prop} (I : Inv X pins σ H s) (L : LamP X.env.scope scope p)
    (e0 : Env0 X.prog X.w X.K X.mg X.base A X.stack s H) (hr : Room (k + 1) A) (hj : X.N[j]? = some p) (hj2 : ∀ i, X.N[i]? = some p → i = j) (rv : RelV v u) (hf : s.heap.get? f = some (lamO X params body scope pm c' ctv)) (hc : H c' = some (LamX.CodeO c' (X.env.qual ++ "<lambda>")))
    (hbind : bindArgs (PySem.W.kla_fn "<lambda>" (X.env.qual ++ "<lambda>") params body scope (cloFrom X.env.cells scope.names []) pm (.ref c') ctv) ⟨[u], []⟩ = pure [(p, u)])
    (hbody : Room k (A.deeper (lamE X scope s.heap.objs.size f c')) → PE (lamC X A X.stack s H scope f c') body tb) (ht : tb (σ.set j (some v)) H Q) :
    wpAny (model X.prog X.w) A (call (.ref f) [u]) (fun r t => L2.CE X.stack X.prog X.w H s Q r t) E s := by
  obtain ⟨⟨oc, vs, t, hoc, hdc, hvc⟩, _, _⟩ := I.hok c' _ hc
  refine wpAny_call (PySem.W.kla_callFunE hr.depth hf rfl L.co L.gen rfl ⟨c', oc, vs, t, rfl, hoc, hdc, hvc⟩ ?_)
  rw [hbind]
  refine wpAny_pure (wpAny_newFunctionEnv (fun y hy => L.own y hy) (fun y hy => by rw [List.mem_singleton.mp hy]; exact L.par) (fun h₁ hns hsb => ⟨I.nolimit.fresh _ hsb, ?_⟩) L.kind)
  have kp : ∀ b o, s.heap.get? b = some o → h₁.get? b = some o := fun b o e => hsb.extBut b o (Nat.ne_of_lt (Heap.lt_size e)) (Heap.get?_push_of_some _ e)
  have J := lam_start (f := f) (c' := c') (tk := s.toks + [(p, u)].length) I L e0 hr.hd hj hj2 rv hns kp
  refine PySem.W.kla_codeExpr (wpAny_mono ((hbody (hr.deeper _)).run [] _ _ H Q J ht) (fun r t hq => ?_) fun e t hq => (show False from hq).elim)
  obtain ⟨w', H', J', rv', q⟩ := hq
  exact ⟨w', H', J'.os, J'.bare, J'.base, J'.hok, rv', q⟩
end
end Ev
namespace Ev
open PySem PySem.Spec PyProof.Rows L2
def kOf : R → Option (List Int)
  | .ok (.tup ms) _ => intsOf ms
  | _ => none
def ltK : List Int → List Int → Bool := cmpT cLtI cLtN
def goK (f : AV → R) : List AV → AV → List Int → Option AV
  | [], b, _ => some b
  | y :: r, b, k => (match kOf (f y) with
    | some k' => (match ltK k' k with
      | true => goK f r y k'
      | false => goK f r b k)
    | none => none)
section
variable {X : Cx} {fa fc : Nat → Addr} {pins : List (Addr × Obj)} {σ : L2.St} {ρ : Rho} {A : Hs} {H1 : Hp} {FO : Obj} {f c' S I l : Addr}
/-- between two turns -/
structure LK (X : Cx) (G : Gl) (pins : List (Addr × Obj)) (σ : L2.St) (ρ : Rho) (A : Hs) (H1 : Hp) (FO : Obj) (f S I : Addr) (s : Shared) (H' : Hp) : Prop where
  inv : Inv X pins σ H' s
  fo : s.heap.get? f = some FO
  fn : H' f = none
  rel : ∃ ρ', Ext ρ H1 ρ' H' ∧ Rel G ρ' A H'
  nS : H' S = none
  nI : H' I = none
theorem sqT_un {K : PySem.W.Frag} {fs ex : List Addr} {H H2 : Hp} {h h2 : Heap} (u : Un fs ex H H2 h h2) {a : Addr} {xs : List V} (q : SqT K H a xs) : SqT K H2 a xs := by
  rcases q with (q | ⟨o, q⟩) | q
  · exact .inl (.inl (u.tups _ _ q))
  · exact .inl (.inr ⟨o, u.frzs _ _ _ q⟩)
  · exact .inr q
theorem lt_in1 {s : Shared} {H : Hp} {a b : Addr} {ns ms : List Int} {Q : Value → Shared → Prop} {E : Value → Shared → Prop} (hu : X.A.units + 1 < cLine) (I : Inv X pins σ H s) (ha : SqT X.K H a (ns.map V.int)) (hb : SqT X.K H b (ms.map V.int)) (q : Q (.bool (ltK ns ms)) s) :
    wpAny (model X.prog X.w) X.A.in1 (richCompare .Lt (.ref a) (.ref b)) Q E s := by
  obtain ⟨i1, r1, p1, _⟩ := I.tuple ha
  obtain ⟨i2, r2, p2, _⟩ := I.tuple hb
  have g1 : IntsAre i1 ns := Vals.ints r1
  have g2 : IntsAre i2 ms := Vals.ints r2
  have W := Ob.RcOp.tuples_lt (A := X.A.in1) (s := s) (e := eqJ ns ms) (r := fun j => cLtI (ns.getD j 0) (ms.getD j 0)) p1 p2 (show X.A.units + 1 < cLine from hu) (fun j l1 l2 => eqJ_at g1 g2 j l1 l2) (fun j l1 l2 _ => by
    obtain ⟨t, e⟩ := ats g1 j l1
    obtain ⟨t', e'⟩ := ats g2 j l2
    rw [e, e']
    exact Ob.RcOp.lt_int _ _ _ _)
  rw [sz g1, sz g2] at W
  exact W X.prog X.w E Q q
/-- one turn of the key -/
theorem lk_turn {scope : Scope} {p : Str} {j k : Nat} {pm ctv : Value} {params : Arguments} {body : Expr} {e : En} {cb : CE} {x : AV} {v : V} {u : Value} {kb : List Int} {E : Value → Shared → Prop} {s : Shared} {H' : Hp} {oS oI : Obj}
    (K : LK X (gl X fa fc) pins σ ρ A H1 (lamO X params body scope pm c' ctv) f S I s H') (L : LamP X.env.scope scope p) (hr : Room (k + 2) X.A) (hj : X.N[j]? = some p) (hj2 : ∀ i, X.N[i]? = some p → i = j)
    (hbind : ∀ (q : Str) (cl : List (Str × Addr)) (pm cv ctv u : Value), bindArgs (PySem.W.kla_fn "<lambda>" q params body scope cl pm cv ctv) ⟨[u], []⟩ = pure [(p, u)])
    (hbody : ∀ (A : Around) (outer : List Env) (s : Shared) (H : Hp) (f c' : Addr), Room k (A.deeper (lamE X scope s.heap.objs.size f c')) → PEc (gl X fa fc) (lamC X A outer s H scope f c') body cb)
    (pure_ : ∀ e A v A', cb e A = .ok v A' → A' = A) (hc : H1 c' = some (LamX.CodeO c' (X.env.qual ++ "<lambda>"))) (nc : ¬ ρ.on c') (hfr : f ∉ frs X.stack) (hS : S ∉ frs X.stack) (hI : I ∉ frs X.stack)
    (er : ERel (gl X fa fc) ρ H1 e σ) (vx : VRel (gl X fa fc) ρ H1 false x v) (ru : RelV v u) (hk : kOf (cb (e.set j x) A) = some kb) (gS : s.heap.get? S = some oS) (gI : s.heap.get? I = some oI) :
    wpAny (model X.prog X.w) X.A.in1 (call (.ref f) [u]) (fun kv t => ∃ H2, LK X (gl X fa fc) pins σ ρ A H1 (lamO X params body scope pm c' ctv) f S I t H2 ∧ t.heap.get? S = some oS ∧ t.heap.get? I = some oI ∧ (∃ a, kv = .ref a ∧ SqT X.K H2 a (kb.map V.int)) ∧
      ∀ a xs, SqT X.K H' a xs → SqT X.K H2 a xs) E s := by
  obtain ⟨ρ', ex, rel⟩ := K.rel
  obtain ⟨kk, hcb, hki⟩ : ∃ kk, cb (e.set j x) A = .ok (.tup kk) A ∧ intsOf kk = some kb := by
    cases h : cb (e.set j x) A with
    | bad => rw [h] at hk; cases hk
    | ok w A' =>
      rw [h] at hk
      obtain rfl := pure_ _ _ _ _ h
      cases w with
      | tup kk => exact ⟨kk, rfl, hk⟩
      | _ => cases hk
  have run := lam_call (Q := fun kv H2 => ∃ ρ2, Ext ρ' H' ρ2 H2 ∧ Rel (gl X fa fc) ρ2 A H2 ∧ VRel (gl X fa fc) ρ2 H2 false (.tup kk) kv) (E := E) K.inv L K.inv.env0.in1 (hr.in1) hj hj2 ru K.fo (ex.kp hc nc) (hbind _ _ _ _ _ _) (fun hr => hbody _ _ _ _ _ _ hr)
    ⟨ρ', A, e.set j x, rel, (er.mono ex).set (vx.mono ex) j, .nil, .tup kk, A, hcb, fun ρ2 H2 y e2 r2 v2 => ⟨ρ2, e2, r2, v2⟩⟩
  refine wpAny_mono run (fun kv t h => ?_) fun _ _ h => h
  obtain ⟨kw, H2, os, bare, un, hok, rk, ρ2, e2, r2, v2⟩ := h
  cases v2 with
  | @tup _ _ a vs fz vr =>
    obtain ⟨rfl, _⟩ := intsOf_ok vr.wk hki
    cases rk
    obtain ⟨hh, g, d, tk, os'⟩ := t
    obtain rfl : os' = s.os := os
    have J := K.inv.call (h' := hh) (g' := g) (d' := d) (t' := tk) (ch := []) un hok bare (fun b z => absurd z (by simp))
    exact ⟨H2, ⟨J, un.keep f _ K.fo K.fn hfr (by simp), un.free f _ K.fo K.fn (by simp), ⟨ρ2, ex.trans rel e2, r2⟩, un.free S _ gS K.nS (by simp), un.free I _ gI K.nI (by simp)⟩, un.keep S _ gS K.nS hS (by simp), un.keep I _ gI K.nI hI (by simp), ⟨a, rfl, fz.sq⟩, fun b xs q => sqT_un un q⟩
end
end Ev
namespace Ev
open PySem PySem.Spec PyProof.Rows L2
section
variable {X : Cx} {fa fc : Nat → Addr} {pins : List (Addr × Obj)} {σ : L2.St} {ρ : Rho} {A : Hs} {H1 : Hp} {FO : Obj} {f c' S I l : Addr}
/-- S and I are written by min itself -/
theorem LK.moved {s : Shared} {H' : Hp} {h' : Heap} {tk : Nat} {W : List Addr} (K : LK X (gl X fa fc) pins σ ρ A H1 FO f S I s H') (hf : f ∉ W) (hW : ∀ b ∈ W, H' b = none ∧ X.s_0.heap.objs.size ≤ b ∧ b ≠ X.env.locals ∧ (∀ x c, X.env.cells.lookup x = some c → c ≠ b) ∧ ∀ p ∈ X.pn ++ pins, p.1 ≠ b)
    (k : ∀ b o, b ∉ W → s.heap.get? b = some o → h'.get? b = some o) : LK X (gl X fa fc) pins σ ρ A H1 FO f S I { s with heap := h', toks := tk } H' := by
  have nw : ∀ b u, H' b = some u → b ∉ W := fun b u e z => by
    rw [(hW b z).1] at e
    cases e
  refine ⟨?_, k f _ hf K.fo, K.fn, K.rel, K.nS, K.nI⟩
  refine K.inv.step (g' := s.gens) (d' := s.drawn) (ch := W) (fun b hb => ⟨.inr (hW b hb).2.1, (hW b hb).2.2⟩) (fun b o _ _ hc e _ => k b o hc e) (fun b o _ _ hc e _ => ⟨o.slots, k b o hc e⟩) (fun _ _ _ _ n => n) (fun b o hc e => ⟨o, k b o hc e⟩)
    (fun _ _ e => e) (fun _ _ _ e => e) (fun b ps e => ⟨#[], by rw [e]; simp⟩) (fun m hm => ?_) (fun b u e => ?_) K.inv.bare
  · obtain ⟨o, es, ep, ho, r⟩ := hm
    exact ⟨o, es, ep, k _ o (fun z => (hW _ z).2.2.1 rfl) ho, r⟩
  · refine (K.inv.hok b u e).stay (fun d v hd q => k d v ?_ q) (fun d q => q) fun d xs q => q
    rcases hd with z | z
    · rw [z]
      exact nw b u e
    · exact nw d _ z
/-- what is walked: its things, at each state; where the walk stands -/
structure Wk (X : Cx) (G : Gl) (pins : List (Addr × Obj)) (σ : L2.St) (ρ : Rho) (A : Hs) (H1 : Hp) (FO : Obj) (f S I l : Addr) (vs : List V) (It : Nat → Heap → Prop) (Sq : List Value → Heap → Prop) : Prop where
  w : ∀ its : List Value, Walks X.prog X.w X.A.in1 I [I, l] [I] its.length (fun i v => its[i]? = some v) (fun i h => It i h ∧ Sq its h)
  it : ∀ (m : Nat) (h h' : Heap), It m h → (∀ o, h.get? I = some o → h'.get? I = some o) → It m h'
  obj : ∀ (m : Nat) (h : Heap), It m h → ∃ o, h.get? I = some o
  sq : ∀ (t : Shared) (H2 : Hp), LK X G pins σ ρ A H1 FO f S I t H2 → ∃ its, Vals vs its ∧ Sq its t.heap
abbrev lst2 (a b : Value) (c : Nat) : Obj := { cls := .type "list", dict := none, data := .seq #[a, b] c, slots := #[] }
theorem mk_loop {scope : Scope} {p : Str} {j k : Nat} {pm ctv : Value} {params : Arguments} {body : Expr} {e : En} {cb : CE} {vs : List V} {xs : List AV} {It : Nat → Heap → Prop} {Sq : List Value → Heap → Prop} {res : AV} {R : Result → Shared → Prop} (kw : List (Str × Value))
    (L : LamP X.env.scope scope p) (hr : Room (k + 2) X.A) (hj : X.N[j]? = some p) (hj2 : ∀ i, X.N[i]? = some p → i = j)
    (hbind : ∀ (q : Str) (cl : List (Str × Addr)) (pm cv ctv u : Value), bindArgs (PySem.W.kla_fn "<lambda>" q params body scope cl pm cv ctv) ⟨[u], []⟩ = pure [(p, u)])
    (hbody : ∀ (A : Around) (outer : List Env) (s : Shared) (H : Hp) (f c' : Addr), Room k (A.deeper (lamE X scope s.heap.objs.size f c')) → PEc (gl X fa fc) (lamC X A outer s H scope f c') body cb)
    (pure_ : ∀ e A v A', cb e A = .ok v A' → A' = A) (hc : H1 c' = some (LamX.CodeO c' (X.env.qual ++ "<lambda>"))) (nc : ¬ ρ.on c') (hfr : f ∉ frs X.stack) (hS : S ∉ frs X.stack) (hI : I ∉ frs X.stack)
    (er : ERel (gl X fa fc) ρ H1 e σ) (vx : VRels (gl X fa fc) ρ H1 false xs vs) (nfS : f ≠ S) (nfI : f ≠ I) (nSI : S ≠ I) (nSl : S ≠ l)
    (hW : ∀ b ∈ [S, I], X.s_0.heap.objs.size ≤ b ∧ b ≠ X.env.locals ∧ (∀ x c, X.env.cells.lookup x = some c → c ≠ b) ∧ ∀ p ∈ X.pn ++ pins, p.1 ≠ b)
    (W : Wk X (gl X fa fc) pins σ ρ A H1 (lamO X params body scope pm c' ctv) f S I l vs It Sq)
    (hR : ∀ w u t H2, VRel (gl X fa fc) ρ H1 false res w → RelV w u → LK X (gl X fa fc) pins σ ρ A H1 (lamO X params body scope pm c' ctv) f S I t H2 → R (.ok (.ret u)) t) :
    ∀ (r pre : List AV) (b : AV) (kb : List Int) (bw : V) (bv kv : Value) (ka : Addr) (c0 : Nat) (s : Shared) (H' : Hp), xs = pre ++ r → LK X (gl X fa fc) pins σ ρ A H1 (lamO X params body scope pm c' ctv) f S I s H' → It pre.length s.heap →
      s.heap.get? S = some (lst2 bv kv c0) → VRel (gl X fa fc) ρ H1 false b bw → RelV bw bv → kv = .ref ka → SqT X.K H' ka (kb.map V.int) → goK (fun y => cb (e.set j y) A) r b kb = some res →
      codeAny (model X.prog X.w) X.A (.builtin "min.loop" ⟨[.ref I, .ref f, .ref S], kw⟩) R s := by
  have hnm : (toString "min" ++ toString ".loop" : String) = "min.loop" := by decide
  have wI : ∀ (H' : Hp) (s : Shared), LK X (gl X fa fc) pins σ ρ A H1 (lamO X params body scope pm c' ctv) f S I s H' → ∀ b ∈ [I], H' b = none ∧ X.s_0.heap.objs.size ≤ b ∧ b ≠ X.env.locals ∧ (∀ x c, X.env.cells.lookup x = some c → c ≠ b) ∧ ∀ p ∈ X.pn ++ pins, p.1 ≠ b := fun H' s K b hb => by
    rw [List.mem_singleton.mp hb]
    exact ⟨K.nI, hW I (by simp)⟩
  have wS : ∀ (H' : Hp) (s : Shared), LK X (gl X fa fc) pins σ ρ A H1 (lamO X params body scope pm c' ctv) f S I s H' → ∀ b ∈ [S], H' b = none ∧ X.s_0.heap.objs.size ≤ b ∧ b ≠ X.env.locals ∧ (∀ x c, X.env.cells.lookup x = some c → c ≠ b) ∧ ∀ p ∈ X.pn ++ pins, p.1 ≠ b := fun H' s K b hb => by
    rw [List.mem_singleton.mp hb]
    exact ⟨K.nS, hW S (by simp)⟩
  intro r
  induction r with
  | nil =>
    intro pre b kb bw bv kv ka c0 s H' hx K hit hSo vb rb ek sk hg
    cases hg
    obtain ⟨its, hv, hq⟩ := W.sq s H' K
    have hn : its.length = pre.length := by rw [← hv.length, ← vx.length, hx]; simp
    refine codeAny_builtin PySem.F.entry_min_loop ?_
    rw [Around.under_plainId PySem.F.plain_min_loop _]
    show wpAny _ X.A.in1 (seqItems? (.ref S) >>= _) _ _ s
    refine wpAny_bind (wpAny_seqItems hSo rfl ?_)
    show wpAny _ X.A.in1 (tryCatch (pyNext (.ref I)) _ >>= _) _ _ s
    refine wpAny_bind (wpAny_tryCatch ((W.w its).done s _ _ ⟨by rw [hn]; exact hit, hq⟩ fun h' tk hk => ?_))
    have K1 := K.moved (tk := tk) (fun z => nfI (by simpa using z)) (wI H' s K) hk
    have hSo' := hk S _ (by simpa using nSI) hSo
    show wpAny _ X.A.in1 (updateSeq S (fun _ => #[]) >>= _) _ _ _
    refine wpAny_bind ?_
    refine wpAny_updateSeq hSo' rfl (wpAny_bind (wpAny_letGo (wpAny_pure ?_)))
    exact hR bw bv _ H' vb rb (K1.moved (W := [S]) (fun z => nfS (by simpa using z)) (wS H' _ K1) fun b o hb e => (Heap.get?_update_other _ _ (fun z => hb (by simp [z]))).trans e)
  | cons y r ih =>
    intro pre b kb bw bv kv ka c0 s H' hx K hit hSo vb rb ek sk hg
    obtain ⟨its, hv, hq⟩ := W.sq s H' K
    have hn : its.length = pre.length + (r.length + 1) := by rw [← hv.length, ← vx.length, hx]; simp
    obtain ⟨yw, hyw, vy⟩ := vx.get (i := pre.length) (x := y) (by rw [hx]; simp)
    obtain ⟨yu, hyu, ry⟩ := hv.get hyw
    refine codeAny_builtin PySem.F.entry_min_loop ?_
    rw [Around.under_plainId PySem.F.plain_min_loop _]
    show wpAny _ X.A.in1 (seqItems? (.ref S) >>= _) _ _ s
    refine wpAny_bind (wpAny_seqItems hSo rfl ?_)
    show wpAny _ X.A.in1 (tryCatch (pyNext (.ref I)) _ >>= _) _ _ s
    refine wpAny_bind (wpAny_tryCatch ((W.w its).item pre.length s _ _ (by omega) ⟨hit, hq⟩ fun v h' tk hP hst hk => ?_))
    have hP : its[pre.length]? = some v := hP
    rw [hyu] at hP
    cases hP
    have K1 := K.moved (tk := tk) (fun z => nfI (by simpa using z)) (wI H' s K) hk
    have hSo' := hk S _ (by simpa using nSI) hSo
    obtain ⟨oI, hoI⟩ := W.obj _ _ hst.1
    show wpAny _ X.A.in1 (tryCatch (holding [yu] (call (.ref f) [yu])) _ >>= _) _ _ _
    unfold goK at hg
    cases hk' : kOf (cb (e.set j y) A) with
    | none => simp only [hk'] at hg; cases hg
    | some ky =>
    simp only [hk'] at hg
    refine wpAny_bind (wpAny_tryCatch (wpAny_holding (wpAny_mono (lk_turn K1 L hr hj hj2 hbind hbody pure_ hc nc hfr hS hI er vy ry hk' hSo' hoI) (fun kx t ht => ?_) fun _ _ z => z)))
    obtain ⟨H2, K2, gS, gI, ⟨a, rfl, sa⟩, st⟩ := ht
    subst ek
    show wpAny _ X.A.in1 (tryCatch (holding [yu, .ref a] (richCompare .Lt (.ref a) (.ref ka) >>= _)) _ >>= _) _ _ _
    refine wpAny_bind (wpAny_tryCatch (wpAny_holding (wpAny_bind (lt_in1 (by have := hr.un; omega) K2.inv sa (st _ _ sk) ?_))))
    refine wpAny_bind (wpAny_holding (wpAny_truthy_bool ?_))
    refine wpAny_bind (wpAny_letGo (wpAny_pure ?_))
    have hit2 : It (pre ++ [y]).length t.heap := by
      rw [List.length_append]
      exact W.it _ _ _ hst.1 fun o ho => by rw [hoI] at ho; cases ho; exact gI
    cases hb : ltK ky kb with
    | true =>
      rw [hb] at hg
      simp only [if_true]
      refine wpAny_bind ?_
      refine wpAny_updateSeq gS rfl (wpAny_bind (wpAny_letGo ?_))
      rw [hnm]
      have K3 := K2.moved (W := [S]) (tk := t.toks) (h' := t.heap.update S (Obj.mapSeq fun _ => #[yu, .ref a])) (fun z => nfS (by simpa using z)) (wS H2 _ K2) fun b o hb e => (Heap.get?_update_other _ _ (fun z => hb (by simp [z]))).trans e
      refine wpAny_pure ⟨plainId_quiet PySem.F.plain_min_loop _, ih (pre ++ [y]) y ky yw yu (.ref a) a _ _ H2 (by rw [hx]; simp) K3 (W.it _ _ _ hit2 fun o ho => (Heap.get?_update_other _ _ nSI).trans ho) (Heap.get?_update_self _ gS rfl) vy ry rfl sa hg⟩
    | false =>
      rw [hb] at hg
      simp only [Bool.false_eq_true, if_false]
      refine wpAny_bind (wpAny_letGo ?_)
      rw [hnm]
      exact wpAny_pure ⟨plainId_quiet PySem.F.plain_min_loop _, ih (pre ++ [y]) b kb bw bv (.ref ka) ka c0 t H2 (by rw [hx]; simp) K2 hit2 gS vb rb rfl (st _ _ sk) hg⟩
end
end Ev
namespace Ev
open PySem PySem.Spec PyProof.Rows L2
section
variable {X : Cx} {fa fc : Nat → Addr} {pins : List (Addr × Obj)} {σ : L2.St} {ρ : Rho} {A : Hs} {H1 : Hp} {FO : Obj} {f c' S I l : Addr}
theorem mk_first {scope : Scope} {p : Str} {j k : Nat} {pm ctv : Value} {params : Arguments} {body : Expr} {e : En} {cb : CE} {vs : List V} {x : AV} {r : List AV} {kx : List Int} {It : Nat → Heap → Prop} {Sq : List Value → Heap → Prop} {res : AV} {R : Result → Shared → Prop} (kw : List (Str × Value))
    (L : LamP X.env.scope scope p) (hr : Room (k + 2) X.A) (hj : X.N[j]? = some p) (hj2 : ∀ i, X.N[i]? = some p → i = j)
    (hbind : ∀ (q : Str) (cl : List (Str × Addr)) (pm cv ctv u : Value), bindArgs (PySem.W.kla_fn "<lambda>" q params body scope cl pm cv ctv) ⟨[u], []⟩ = pure [(p, u)])
    (hbody : ∀ (A : Around) (outer : List Env) (s : Shared) (H : Hp) (f c' : Addr), Room k (A.deeper (lamE X scope s.heap.objs.size f c')) → PEc (gl X fa fc) (lamC X A outer s H scope f c') body cb)
    (pure_ : ∀ e A v A', cb e A = .ok v A' → A' = A) (hc : H1 c' = some (LamX.CodeO c' (X.env.qual ++ "<lambda>"))) (nc : ¬ ρ.on c') (hfr : f ∉ frs X.stack) (hS : S ∉ frs X.stack) (hI : I ∉ frs X.stack)
    (er : ERel (gl X fa fc) ρ H1 e σ) (vx : VRels (gl X fa fc) ρ H1 false (x :: r) vs) (nfS : f ≠ S) (nfI : f ≠ I) (nSI : S ≠ I) (nSl : S ≠ l)
    (hW : ∀ b ∈ [S, I], X.s_0.heap.objs.size ≤ b ∧ b ≠ X.env.locals ∧ (∀ x c, X.env.cells.lookup x = some c → c ≠ b) ∧ ∀ p ∈ X.pn ++ pins, p.1 ≠ b)
    (W : Wk X (gl X fa fc) pins σ ρ A H1 (lamO X params body scope pm c' ctv) f S I l vs It Sq)
    (hR : ∀ w u t H2, VRel (gl X fa fc) ρ H1 false res w → RelV w u → LK X (gl X fa fc) pins σ ρ A H1 (lamO X params body scope pm c' ctv) f S I t H2 → R (.ok (.ret u)) t)
    {c0 : Nat} {s : Shared} {H' : Hp} (K : LK X (gl X fa fc) pins σ ρ A H1 (lamO X params body scope pm c' ctv) f S I s H') (hit : It 0 s.heap)
    (hSo : s.heap.get? S = some { cls := .type "list", dict := none, data := .seq #[] c0, slots := #[] }) (hk0 : kOf (cb (e.set j x) A) = some kx) (hg : goK (fun y => cb (e.set j y) A) r x kx = some res) :
    codeAny (model X.prog X.w) X.A (.builtin "min.loop" ⟨[.ref I, .ref f, .ref S], kw⟩) R s := by
  have hnm : (toString "min" ++ toString ".loop" : String) = "min.loop" := by decide
  obtain ⟨its, hv, hq⟩ := W.sq s H' K
  have hn : its.length = r.length + 1 := by rw [← hv.length, ← vx.length]; simp
  obtain ⟨yw, hyw, vy⟩ := vx.get (i := 0) (x := x) rfl
  obtain ⟨yu, hyu, ry⟩ := hv.get hyw
  refine codeAny_builtin PySem.F.entry_min_loop ?_
  rw [Around.under_plainId PySem.F.plain_min_loop _]
  show wpAny _ X.A.in1 (seqItems? (.ref S) >>= _) _ _ s
  refine wpAny_bind (wpAny_seqItems hSo rfl ?_)
  show wpAny _ X.A.in1 (tryCatch (pyNext (.ref I)) _ >>= _) _ _ s
  refine wpAny_bind (wpAny_tryCatch ((W.w its).item 0 s _ _ (by omega) ⟨hit, hq⟩ fun v h' tk hP hst hk => ?_))
  have hP : its[0]? = some v := hP
  rw [hyu] at hP
  cases hP
  have K1 := K.moved (tk := tk) (W := [I]) (fun z => nfI (by simpa using z)) (fun b hb => by rw [List.mem_singleton.mp hb]; exact ⟨K.nI, hW I (by simp)⟩) hk
  have hSo' := hk S _ (by simpa using nSI) hSo
  obtain ⟨oI, hoI⟩ := W.obj _ _ hst.1
  show wpAny _ X.A.in1 (tryCatch (holding [yu] (call (.ref f) [yu])) _ >>= _) _ _ _
  refine wpAny_bind (wpAny_tryCatch (wpAny_holding (wpAny_mono (lk_turn K1 L hr hj hj2 hbind hbody pure_ hc nc hfr hS hI er vy ry hk0 hSo' hoI) (fun kx' t ht => ?_) fun _ _ z => z)))
  obtain ⟨H2, K2, gS, gI, ⟨a, rfl, sa⟩, st⟩ := ht
  show wpAny _ X.A.in1 (updateSeq S (fun _ => #[yu, .ref a]) >>= _) _ _ _
  refine wpAny_bind ?_
  refine wpAny_updateSeq gS rfl ?_
  rw [hnm]
  have K3 := K2.moved (W := [S]) (tk := t.toks) (h' := t.heap.update S (Obj.mapSeq fun _ => #[yu, .ref a])) (fun z => nfS (by simpa using z)) (fun b hb => by rw [List.mem_singleton.mp hb]; exact ⟨K2.nS, hW S (by simp)⟩) fun b o hb e => (Heap.get?_update_other _ _ (fun z => hb (by simp [z]))).trans e
  have hit2 : It 1 t.heap := W.it _ _ _ hst.1 fun o ho => by rw [hoI] at ho; cases ho; exact gI
  exact wpAny_pure ⟨plainId_quiet PySem.F.plain_min_loop _, mk_loop kw L hr hj hj2 hbind hbody pure_ hc nc hfr hS hI er vx nfS nfI nSI nSl hW W hR r [x] x kx yw yu (.ref a) a _ _ H2 rfl K3 (W.it _ _ _ hit2 fun o ho => (Heap.get?_update_other _ _ nSI).trans ho) (Heap.get?_update_self _ gS rfl) vy ry rfl sa hg⟩
end
def cMinK (t i j : Nat) (cx cb : CE) : CE := fun e A => (cx e A).bind fun s A1 => match A1[t]? with
  | some (.tab i') => (match Nat.beq i' i with
    | true => (match seqOf A1 s with
      | some (x :: r) => (match intsOf (x :: r) with
        | some _ => (match kOf (cb (e.set j x) A1) with
          | some k => (match goK (fun y => cb (e.set j y) A1) r x k with
            | some b => .ok b A1
            | none => .bad)
          | none => .bad)
        | none => .bad)
      | _ => .bad)
    | false => .bad)
  | _ => .bad
theorem cMinK_ok {t i j : Nat} {cx cb : CE} {e : En} {A A' : Hs} {v : AV} (h0 : cMinK t i j cx cb e A = .ok v A') : ∃ s x r k, cx e A = .ok s A' ∧ A'[t]? = some (.tab i) ∧ seqOf A' s = some (x :: r) ∧ (∃ ns, intsOf (x :: r) = some ns) ∧ kOf (cb (e.set j x) A') = some k ∧ goK (fun y => cb (e.set j y) A') r x k = some v := by
  obtain ⟨s, A1, h1, h⟩ := R.bind_ok h0
  cases ht : A1[t]? with
  | none => rw [ht] at h; cases h
  | some cl =>
  rw [ht] at h
  cases cl with
  | lst ys => cases h
  | ins c fs => cases h
  | dct _ _ _ => cases h
  | tab i' =>
  dsimp only at h
  cases hb : Nat.beq i' i with
  | false => rw [hb] at h; cases h
  | true =>
  rw [hb] at h
  obtain rfl := Nat.eq_of_beq_eq_true hb
  dsimp only at h
  cases hs : seqOf A1 s with
  | none => rw [hs] at h; cases h
  | some l =>
  rw [hs] at h
  cases l with
  | nil => cases h
  | cons x r =>
  dsimp only at h
  cases hn : intsOf (x :: r) with
  | none => rw [hn] at h; cases h
  | some ns =>
  rw [hn] at h
  dsimp only at h
  cases hk : kOf (cb (e.set j x) A1) with
  | none => rw [hk] at h; cases h
  | some k =>
  rw [hk] at h
  dsimp only at h
  cases hg : goK (fun y => cb (e.set j y) A1) r x k with
  | none => rw [hg] at h; cases h
  | some b =>
  rw [hg] at h
  cases h
  exact ⟨s, x, r, k, h1, ht, hs, ⟨ns, hn⟩, hk, hg⟩
section
variable {X : Cx} {fa fc : Nat → Addr}
/-- min(a, key=lambda p: body) -/
theorem pec_minK {t i j k : Nat} {a body : Expr} {ca cb : CE} {params : Arguments} {scope : Scope} {p : Str} {c : Addr} {p0 lpos kp pos : Pos} (TB : LamX.TabB X.base X.mg c (fa (i + 1000))) (hcode : X.env.code = .ref c) (hq : X.env.qual ++ "<lambda>" = tabNm i)
    (hr : Room (k + 2) X.A) (L : LamP X.env.scope scope p) (hj : X.N[j]? = some p) (hj2 : ∀ i, X.N[i]? = some p → i = j) (hdef : defaultsOf params X.env = ([], []))
    (hbind : ∀ (q : Str) (cl : List (Str × Addr)) (pm cv ctv u : Value), bindArgs (PySem.W.kla_fn "<lambda>" q params body scope cl pm cv ctv) ⟨[u], []⟩ = pure [(p, u)])
    (hm : X.mg "min" = none) (ha : PEc (gl X fa fc) X a ca) (hbody : ∀ (A : Around) (outer : List Env) (s : Shared) (H : Hp) (f c' : Addr), Room k (A.deeper (lamE X scope s.heap.objs.size f c')) → PEc (gl X fa fc) (lamC X A outer s H scope f c') body cb)
    (pure_ : ∀ e A v A', cb e A = .ok v A' → A' = A) (hg : L2.Gl X "min" := by rfl)
    (hs : starEach [a] X.env = [(false, eval a X.env)] := by rfl) :
    PEc (gl X fa fc) X (.Call (.Name "min" p0) [a] [⟨some "key", .Lambda params body scope lpos, kp⟩] pos) (cMinK t i j ca cb) := by
  refine ⟨fun pins s σ H Q I h => ?_⟩
  obtain ⟨ρ0, A0, e, rel0, er0, _, w, A', hc, kq⟩ := h
  obtain ⟨sv, x, r, kx, h1, ht, hsq, ⟨nn, hnn⟩, hk0, hgo⟩ := cMinK_ok hc
  have hnm : (toString "min" ++ toString ".loop" : String) = "min.loop" := by decide
  have ha' : PAc (gl X fa fc) X [a] (aCons ca aNil) := pac_cons ha pac_nil (by rw [hs]; rfl)
  refine wpAny_Call_Name_kw (ld_blt I hg hm (show bootBuiltins "min" = some (.builtin "min") by decide +kernel) ?_)
  refine PyProof.Rows.callWith_kw (thn (ha'.run pos pins s σ H (fun ys H1 => ∃ ρ1, Ext ρ0 H ρ1 H1 ∧ Rel (gl X fa fc) ρ1 A' H1 ∧ VRels (gl X fa fc) ρ1 H1 false [sv] ys) I ⟨ρ0, A0, e, rel0, er0, .nil, [sv], A', by unfold aCons; rw [h1]; rfl, fun ρ1 H1 ys ex r1 v1 => ⟨ρ1, ex, r1, v1⟩⟩) fun us s1 ⟨vs, H1, I1, r1, ρ1, ex1, rel1, v1⟩ => ?_) (by rw [hs]; rfl) (by rw [hs]; rfl)
  cases v1 with
  | @cons _ _ _ yv ys v1 t1 =>
  cases t1
  cases r1 with
  | @cons _ yu _ us r1 t1 =>
  cases t1
  obtain ⟨pp, hp, _, ep, ps, tp1, tp2, tp3⟩ := tab_at rel1 ht
  have ep : pp.1 = fa (i + 1000) := ep
  rw [ep] at tp1
  refine PyProof.Rows.kws_cons (lam_mk I1 TB hcode hq tp1 tp2 (fun pos cv hcv => let ⟨c0, a1, a2, _⟩ := tp3 pos cv hcv; ⟨c0, a1, a2⟩) hdef (L.has I1.ok) fun f c' pm ctv H2 s2 I2 lh hf hfn hfr hco => PyProof.Rows.kws_nil ?_)
  obtain ⟨ex2, rel2⟩ := lam_rel rel1 ht (P := fa (i + 1000)) rfl lh
  have nc : ¬ ρ1.on c' := by
    rcases lh with ⟨_, ps', q1, pos', q2⟩ | ⟨q1, _⟩
    · rw [tp1] at q1
      cases q1
      obtain ⟨c0, a1, a2, a3⟩ := tp3 pos' _ q2
      cases a1
      exact a3
    · exact rel1.not_on q1
  have vsv := v1.mono ex2
  obtain ⟨l, vs, rfl, hseq, vxs⟩ := seqOf_ok rel2 vsv hsq
  obtain rfl : yu = Value.ref l := r1
  -- the call
  show wpAny (model X.prog X.w) X.A (call (.builtin "min") [.ref l] [(Str.ofString "key", .ref f)]) _ _ s2
  refine PyProof.Rows.kmk_tree PySem.F.kind_min PySem.F.plain_min PySem.F.entry_min (PyProof.Rows.kmk_min_key _ _) ?_
  show wpAny _ X.A.in1 (Builtin.Builtins.bindParams "min" ["key", "default"] 0 ⟨[], [(Str.ofString "key", .ref f)]⟩ >>= _) _ _ s2
  refine wpAny_bind (wpAny_of_eq (show Builtin.Builtins.bindParams "min" ["key", "default"] 0 ⟨[], [(Str.ofString "key", .ref f)]⟩ = pure [some (.ref f), none] from rfl) ?_)
  refine wpAny_bind (wpAny_pure ?_)
  have hh : X.A.in1.handled = none := hr.hd
  have hlf : f < s2.heap.objs.size := Heap.lt_size hf
  have hci : ∀ x c, X.env.cells.lookup x = some c → c < s2.heap.objs.size := fun x c q => by
    obtain ⟨v, o, ho, _⟩ := I2.cell x c q
    exact Heap.lt_size ho
  have hpi : ∀ q ∈ X.pn ++ pins, q.1 < s2.heap.objs.size := fun q hq => Heap.lt_size (I2.pin q hq).1
  have nfr : ∀ b, s2.heap.objs.size ≤ b → b ∉ frs X.stack := fun b hb z => (List.mem_cons.mp (I2.stkSub _ z)).elim (fun q => by have h1 := I2.lt; rw [← q] at h1; exact Nat.lt_irrefl _ (Nat.lt_of_lt_of_le h1 hb)) fun q => I2.nofs hb q
  have hWb : ∀ b, s2.heap.objs.size ≤ b → X.s_0.heap.objs.size ≤ b ∧ b ≠ X.env.locals ∧ (∀ x c, X.env.cells.lookup x = some c → c ≠ b) ∧ ∀ p ∈ X.pn ++ pins, p.1 ≠ b := fun b hb =>
    ⟨Nat.le_trans I2.sz hb, Nat.ne_of_gt (Nat.lt_of_lt_of_le I2.lt hb), fun x c q => Nat.ne_of_lt (Nat.lt_of_lt_of_le (hci x c q) hb), fun q hq => Nat.ne_of_lt (Nat.lt_of_lt_of_le (hpi q hq) hb)⟩
  -- behind iter(x)
  have rest : ∀ (oI : Obj) (It : Nat → Heap → Prop) (Sq : List Value → Heap → Prop), l < s2.heap.objs.size → It 0 (s2.heap.push oI) → (∀ (m : Nat) (h h' : Heap), It m h → (∀ o, h.get? s2.heap.objs.size = some o → h'.get? s2.heap.objs.size = some o) → It m h') → (∀ (m : Nat) (h : Heap), It m h → ∃ o, h.get? s2.heap.objs.size = some o) →
      (∀ its : List Value, Walks X.prog X.w X.A.in1 s2.heap.objs.size [s2.heap.objs.size, l] [s2.heap.objs.size] its.length (fun i v => its[i]? = some v) (fun i h => It i h ∧ Sq its h)) →
      (∀ (t : Shared) (H3 : Hp) (ρ' : Rho), Inv X pins σ H3 t → Ext ρ1 H2 ρ' H3 → Rel (gl X fa fc) ρ' A' H3 → ∃ its, Vals vs its ∧ Sq its t.heap) →
      wpAny (model X.prog X.w) X.A.in1 (newObj (.type "list") (.seq #[] 0) none) (fun S s3 => ∃ Sa, S = Value.ref Sa ∧ codeAny (model X.prog X.w) X.A (.builtin "min.loop" ⟨[.ref s2.heap.objs.size, .ref f, .ref Sa], []⟩) (fun r t => match r with | .ok (.ret v) => EP X pins σ Q v t | .ok _ => False | .error e => X.xe e t) s3) X.xe { s2 with heap := s2.heap.push oI } := by
    intro oI It Sq hl hIt0 hItk hIto hWk hSqk
    refine wpAny_newObj_type ⟨_, rfl, ?_⟩
    have I3 : Inv X pins σ H2 { s2 with heap := (s2.heap.push oI).push { cls := .type "list", data := .seq #[] 0 } } := I2.kept (t' := s2.toks) fun b o e => Heap.get?_push_of_some _ (Heap.get?_push_of_some _ e)
    have sz1 : (s2.heap.push oI).objs.size = s2.heap.objs.size + 1 := Heap.size_push _ _
    have K0 : LK X (gl X fa fc) pins σ ρ1 A' H2 (lamO X params body scope pm c' ctv) f (s2.heap.push oI).objs.size s2.heap.objs.size { s2 with heap := (s2.heap.push oI).push { cls := .type "list", data := .seq #[] 0 } } H2 :=
      ⟨I3, Heap.get?_push_of_some _ (Heap.get?_push_of_some _ hf), hfn, ⟨ρ1, Ext.refl _ _, rel2⟩, I2.hok.fresh (by rw [sz1]; exact Nat.le_succ _), I2.hok.fresh (Nat.le_refl _)⟩
    refine mk_first (l := l) (vs := vs) (It := It) (Sq := Sq) (res := w) (c0 := 0) _ L hr hj hj2 hbind hbody pure_ (hq ▸ hco) nc hfr (nfr _ (by rw [sz1]; exact Nat.le_succ _)) (nfr _ (Nat.le_refl _)) (er0.mono (ex1.trans rel1 ex2)) vxs (Nat.ne_of_lt (by rw [sz1]; exact Nat.lt_succ_of_lt hlf)) (Nat.ne_of_lt hlf) (by rw [sz1]; exact Nat.succ_ne_self _) (Nat.ne_of_gt (by rw [sz1]; exact Nat.lt_succ_of_lt hl)) (fun b hb => ?_)
      ⟨hWk, hItk, hIto, fun t H3 K => let ⟨ρ', e', r'⟩ := K.rel; hSqk t H3 ρ' K.inv e' r'⟩ (fun w' u t H3 vw ru K => ?_) K0 (hItk _ _ _ hIt0 fun o ho => Heap.get?_push_of_some _ ho) (Heap.get?_push_size _ rfl) hk0 hgo
    · rcases List.mem_cons.mp hb with hb | hb
      · rw [hb, sz1]
        exact hWb _ (Nat.le_succ _)
      · rw [List.mem_singleton.mp hb]
        exact hWb _ (Nat.le_refl _)
    · obtain ⟨ρ', e', r'⟩ := K.rel
      exact ⟨w', H3, K.inv, ru, kq ρ' H3 w' ((ex1.trans rel1 ex2).trans rel2 e') r' (vw.mono e')⟩
  have same : ∀ {H3 : Hp} {ρ' : Rho} {vs' : List V}, VRels (gl X fa fc) ρ' H3 false (x :: r) vs' → vs' = vs := fun q => (intsOf_ok q hnn).1.trans (intsOf_ok vxs hnn).1.symm
  have kind : (∀ (ρ' : Rho) (H3 : Hp) (v : V), Rel (gl X fa fc) ρ' A' H3 → VRel (gl X fa fc) ρ' H3 false sv v → ∃ l vs, v = .ref l ∧ SqL X.K H3 l vs ∧ VRels (gl X fa fc) ρ' H3 false (x :: r) vs) ∨ (∀ (ρ' : Rho) (H3 : Hp) (v : V), Rel (gl X fa fc) ρ' A' H3 → VRel (gl X fa fc) ρ' H3 false sv v → ∃ l vs, v = .ref l ∧ SqT X.K H3 l vs ∧ VRels (gl X fa fc) ρ' H3 false (x :: r) vs) := by
    cases sv with
    | tup ys => cases hsq; exact .inr fun ρ' H3 v _ hv => by cases hv with | tup h1 h2 => exact ⟨_, _, rfl, h1.sq, h2.wk⟩
    | mix ys => cases hsq; exact .inr fun ρ' H3 v _ hv => by cases hv with | mix h1 h2 => exact ⟨_, _, rfl, h1.sq, h2⟩
    | _ => exact .inl fun ρ' H3 v r' hv => sqlOf_ok r' hv hsq
  rcases kind with kind | kind
  · obtain ⟨l', vs', e1, hs1, vxs'⟩ := kind _ _ _ rel2 vsv
    cases e1
    obtain rfl := same vxs'
    obtain ⟨its0, q1, q2, _⟩ := I2.list hs1
    refine wpAny_bind (wpAny_pyIter_list q2.isList ?_)
    refine wpAny_bind (wpAny_mono (rest _ (fun m h => h.IsListIter s2.heap.objs.size l m) (fun its h => h.IsList l its.toArray) q2.lt ⟨_, Heap.get?_push_size _ rfl, rfl, rfl⟩ (fun m h h' hh hk => hh.at hk) (fun m h ⟨o, ho, _⟩ => ⟨o, ho⟩) (fun its => ?_) (fun t H3 ρ' J e' r' => ?_)) (fun S s3 hS => ?_) fun _ _ z => z)
    · have := Walks.list (prog := X.prog) (w := X.w) (A := X.A.in1) hh s2.heap.objs.size l (Nat.ne_of_lt q2.lt) its.toArray
      simpa using this
    · obtain ⟨l', vs', e1, hseq', vxs'⟩ := kind _ _ _ r' (vsv.mono e')
      cases e1
      obtain rfl := same vxs'
      obtain ⟨its, a1, a2, _⟩ := J.list hseq'
      exact ⟨its, a1, a2.isList⟩
    · obtain ⟨Sa, rfl, hS⟩ := hS
      rw [hnm]
      exact wpAny_pure ⟨plainId_quiet PySem.F.plain_min_loop _, hS⟩
  · obtain ⟨l', vs', e1, hs1, vxs'⟩ := kind _ _ _ rel2 vsv
    cases e1
    obtain rfl := same vxs'
    obtain ⟨its0, q1, q2, _⟩ := I2.tuple hs1
    have hlt : l < s2.heap.objs.size := let ⟨_, ho, _⟩ := q2; Heap.lt_size ho
    refine wpAny_bind (wpAny_pyIter_tuple q2 ?_)
    refine wpAny_bind (wpAny_mono (rest _ (fun m h => h.IsTupleIter s2.heap.objs.size l m) (fun its h => h.IsTuple l its.toArray) hlt ⟨_, Heap.get?_push_size _ rfl, rfl, rfl⟩ (fun m h h' hh hk => hh.at hk) (fun m h ⟨o, ho, _⟩ => ⟨o, ho⟩) (fun its => ?_) (fun t H3 ρ' J e' r' => ?_)) (fun S s3 hS => ?_) fun _ _ z => z)
    · have := Walks.tuple (prog := X.prog) (w := X.w) (A := X.A.in1) hh s2.heap.objs.size l (Nat.ne_of_lt hlt) its.toArray
      simpa using this
    · obtain ⟨l', vs', e1, hseq', vxs'⟩ := kind _ _ _ r' (vsv.mono e')
      cases e1
      obtain rfl := same vxs'
      obtain ⟨its, a1, a2, _⟩ := J.tuple hseq'
      exact ⟨its, a1, a2⟩
    · obtain ⟨Sa, rfl, hS⟩ := hS
      rw [hnm]
      exact wpAny_pure ⟨plainId_quiet PySem.F.plain_min_loop _, hS⟩
end
end Ev
namespace Ev
open PySem PySem.Spec PyProof.Rows L2
section
variable {P : Program} {w : World} {mg : Str → Option Value} {base : Heap} {x qual : Str} {params : Arguments} {body : List Stmt} {scope : Scope} {dvs : List V} {kws : List (Str × V)} {fd : FuncData} {N ps : List Str} {G : Gl} {F : Nat → Option FnC}
/-- a def that makes lambdas: its code object is known -/
theorem fn_okL {f n : Nat} {fc : FnC} {p : Str × Option Str} (hF : F f = some fc) (D : FunD G.K x qual params body scope dvs kws (G.fa f) fd) (hp : G.fa f = He.fAd G.K p) (S : FnScope N ps scope) (h1 : ps.length = fc.np) (h2 : N.length = fc.nl)
    (hbody : ∀ (A : Around) (outer : List Env) (s : Shared) (H : Hp) (E : XK), Room (6 * n + 5) (A.deeper (envOfC qual scope s.heap.objs.size (G.fa f) (.ref (He.codeOf G.K p)))) → PSsc G (cxOf CX0 P w G.K mg base N qual scope (G.fa f) (.ref (He.codeOf G.K p)) A outer s H E).nox body (fc.code (callF F n))) :
    FnOk P w G.K mg base CX0 (6 * (n + 1)) (G.fa f) fd ps (spF G (callF F (n + 1)) f) :=
  fn_okC (fun cdv => cdv = .ref (He.codeOf G.K p)) hF D (fun oc od osl lk hc => by
    obtain ⟨c, e⟩ := He.codeIn_ref hc
    rw [hp] at lk
    rw [e, He.codeOf_eq lk e]) S h1 h2 fun cdv hc A outer s H E hr => by
    subst hc
    exact hbody A outer s H E hr
end
theorem memB_of {c : Nat} : ∀ {l : List Nat}, c ∈ l → memB c l = true
  | d :: r, h => by
    unfold memB
    cases e : Nat.beq c d with
    | true => rfl
    | false =>
      rcases List.mem_cons.mp h with z | z
      · rw [z, Nat.beq_refl] at e; cases e
      · exact memB_of z
theorem apartB_ok : ∀ {l : List Addr}, apartB l = true → l.Nodup
  | [], _ => List.nodup_nil
  | a :: r, h => by
    obtain ⟨h1, h2⟩ := He.ba h
    refine List.nodup_cons.mpr ⟨fun z => ?_, apartB_ok h2⟩
    rw [memB_of z] at h1
    cases h1
/-- a law, from its code, with tables -/
theorem law_spL {G : Gl} {F : Nat → Option FnC} {N f : Nat} {tl : List Nat} (hd : (tl.map fun i => G.fa (i + 1000)).Nodup) (h : ∀ ns : List Int, ns.length ≤ 63 → ∃ A', callF F N f [.scr (ns.map .int)] (tl.map Cell.tab) = .ok (.bl true) A') {H : Hp} {a : Addr} {ns : List Int} {E : XK} (hn : ns.length ≤ 63)
    (hT : ∀ i ∈ tl, H (G.fa (i + 1000)) = some (.tbl #[])) (hS : SqL G.K H a (ns.map V.int)) : spF G (callF F N) f [.ref a] H (fun v _ => v = .bl true) E := by
  obtain ⟨A', h⟩ := h ns hn
  have on : ∀ b : Addr, (⟨tl.map fun i => (G.fa (i + 1000), G.fa (i + 1000)), []⟩ : Rho).on b → H b = some (.tbl #[]) := fun b z => by
    rcases z with ⟨p, hp, z⟩ | z
    · obtain ⟨i, hi, rfl⟩ := List.mem_map.mp hp
      rcases z with z | z <;> (rw [z]; exact hT i hi)
    · cases z
  have rel : Rel G ⟨tl.map fun i => (G.fa (i + 1000), G.fa (i + 1000)), []⟩ (tl.map Cell.tab) H := by
    refine ⟨by simp, ?_, fun i c p hc hp => ?_, fun b hb => by cases hb⟩
    · rw [List.pairwise_map]
      have hd' := List.pairwise_map.mp hd
      exact hd'.imp fun z => ⟨z, z, z, z⟩
    · rw [List.getElem?_map] at hc hp
      obtain ⟨j, hj, rfl⟩ := Option.map_eq_some_iff.mp hc
      rw [hj] at hp
      cases hp
      exact ⟨rfl, rfl, #[], hT j (List.mem_of_getElem? hj), True.intro, fun pos cv q => by
        have z : codeAmong pos [] = some cv := q
        simp [codeAmong] at z⟩
  have fz : FzL G.K ⟨tl.map fun i => (G.fa (i + 1000), G.fa (i + 1000)), []⟩ H a (ns.map V.int) := by
    rcases hS with q | ⟨o, its, n, hk, hc, hd, hs, hz, r⟩
    · refine .inl ⟨q, fun z => ?_⟩
      have z := on a z
      rcases q with q | ⟨o, q⟩
      · rw [q] at z; cases z
      · rw [q] at z; cases z
    · exact .inr ⟨o, its, n, hk, hc, by assumption, by assumption, by assumption, r⟩
  exact ⟨_, tl.map Cell.tab, _, rel, .cons (.scr fz VRels.ints) .nil, _, A', h, fun ρ' H' x _ _ v => by cases v; rfl⟩
def PureC (c : CE) : Prop := ∀ e A v A', c e A = .ok v A' → A' = A
def PureA (c : CA) : Prop := ∀ e A v A', c e A = .ok v A' → A' = A
theorem pu_var (i : Nat) : PureC (cVar i) := fun e A v A' h => by
  unfold cVar at h
  split at h
  · cases h
  · cases h; rfl
  · cases h
theorem pu_nil : PureA aNil := fun e A w A' h => by
  cases h
  rfl
theorem pu_cons {c : CE} {r : CA} (hc : PureC c) (hr : PureA r) : PureA (aCons c r) := fun e A w A' h => by
  unfold aCons at h
  split at h
  · rename_i v B h1
    split at h
    · rename_i vs B2 h2
      cases h
      rw [hr _ _ _ _ h2, hc _ _ _ _ h1]
    · cases h
  · cases h
theorem pu_tup {a : CA} (ha : PureA a) : PureC (cTup a) := fun e A w A' h => by
  obtain ⟨v, B, h1, h2⟩ := RA.bind_ok h
  dsimp only at h2
  split at h2
  · cases h2; exact ha _ _ _ _ h1
  · cases h2
theorem vIx_pure {x y v : AV} {A A' : Hs} (h : vIx x y A = .ok v A') : A' = A := by
  unfold vIx at h
  repeat' split at h
  all_goals first
    | (cases h; rfl)
    | cases h
theorem pu_ix {a b : CE} (ha : PureC a) (hb : PureC b) : PureC (cBin vIx a b) := fun e A w A' h => by
  obtain ⟨v, B, h1, h2⟩ := R.bind_ok h
  obtain ⟨u, B2, h3, h4⟩ := R.bind_ok h2
  rw [vIx_pure h4, hb _ _ _ _ h3, ha _ _ _ _ h1]
theorem faK_tab {fnm : Nat → Str × Option Str} {K : PySem.W.Frag} (i : Nat) (hi : Nat.ble 2000 (i + 1000) = false) : faK fnm K (i + 1000) = (He.cT K (fnm (i + 1000))).2 := by
  unfold faK
  rw [Nat.ble_eq_true_of_le (Nat.le_add_left 1000 i)]
  dsimp only
  rw [hi]
theorem lawAtL {l : PySem.W.OpenLaw} {w : World} {K : PySem.W.Frag} {mg : Str → Option Value} {h : Heap} {fnm : Nat → Str × Option Str} {cd : Nat → ClsD} {F : Nat → Option FnC} {N lawk k : Nat} {fd : FuncData} {chk : PySem.W.Frag → Bool} {fal : List He.Fa} {fnl : List DfX} (tl : List Nat)
    (c : SaysL chk fal fnl (tl.map fun i => fnm (i + 1000)) h K) (KX : K.In h) (ht : ∀ i ∈ tl, Nat.ble 2000 (i + 1000) = false) (hd : apartB (tl.map fun i => faK fnm K (i + 1000)) = true) (b : ∀ (s : Shared) (u : Value), BindsTo s fd ⟨[u], []⟩ [("script", u)])
    (pl : ∀ ns : List Int, ns.length ≤ 63 → ∃ A', callF F N lawk [.scr (ns.map .int)] (tl.map Cell.tab) = .ok (.bl true) A')
    (hF : ∀ base : Heap, (∀ i ∈ tl, LamX.TabB base mg (He.codeOf K (fnm (i + 1000))) (faK fnm K (i + 1000))) → FnOk l.prog w K mg base CX0 k (faK fnm K lawk) fd ["script"] (spF ⟨K, faK fnm K, fcK cd K⟩ (callF F N) lawk)) :
    LamX.LawAtS l w K CX0 k 63 "script" mg (faK fnm K lawk) h := by
  have mem : ∀ i ∈ tl, fnm (i + 1000) ∈ tl.map fun i => fnm (i + 1000) := fun i hi => List.mem_map.mpr ⟨i, hi, rfl⟩
  have cs : ∀ p ∈ tl.map (fun i => He.cT K (fnm (i + 1000))), ∃ i ∈ tl, p = He.cT K (fnm (i + 1000)) := fun p hp => by
    obtain ⟨i, hi, e⟩ := List.mem_map.mp hp
    exact ⟨i, hi, e.symm⟩
  refine ⟨fd, tl.map fun i => He.cT K (fnm (i + 1000)), spF ⟨K, faK fnm K, fcK cd K⟩ (callF F N) lawk, fun p hp => ?_, fun p hp => ?_, fun p hp => ?_, b, fun H a ns hl _ hT hS => ?_, fun base _ _ hT => hF base fun i hi => ?_⟩
  · obtain ⟨i, hi, rfl⟩ := cs p hp
    exact c.empty _ (mem i hi)
  · obtain ⟨i, hi, rfl⟩ := cs p hp
    exact c.out _ (mem i hi)
  · obtain ⟨i, hi, rfl⟩ := cs p hp
    exact PySem.W.codeHd_of_K KX (c.hd _ (mem i hi))
  · refine law_spL (G := ⟨K, faK fnm K, fcK cd K⟩) (tl := tl) (apartB_ok hd) pl hl (fun i hi => ?_) hS
    show H (faK fnm K (i + 1000)) = _
    rw [faK_tab i (ht i hi)]
    exact hT _ (List.mem_map.mpr ⟨i, hi, rfl⟩)
  · have := hT _ (List.mem_map.mpr ⟨i, hi, rfl⟩)
    rw [faK_tab i (ht i hi)]
    exact this
end Ev
namespace Ev
open PySem PySem.SeqAt
open AutoSeq1 (wpAny_loadPart')
open MeetsSeq MeetsSeq2 MeetsSeq3 SeqRoads2
end Ev
namespace Ev
open PySem PySem.Spec PyProof.Rows L2
def eqEl (call : CallT) (mt : Nat → Option Nat) (mp : Nat → Bool) (A : Hs) (x y : AV) : Bool := match x with
  | .int i => (match y with
    | .int j => decide (i = j)
    | _ => false)
  | .obj c _ => (match y with
    | .obj c' _ => (match mp c with
      | true => (match mt c with
        | some f => (match call f [x, y] A with
          | .ok (.bl true) _ => (mt c').isSome
          | _ => false)
        | none => false)
      | false => false)
    | _ => false)
  | _ => false
def eqEls (call : CallT) (mt : Nat → Option Nat) (mp : Nat → Bool) (A : Hs) : List AV → List AV → Bool
  | [], [] => true
  | x :: xs, y :: ys => (match eqEl call mt mp A x y with
    | true => eqEls call mt mp A xs ys
    | false => false)
  | _, _ => false
def vTpB (b : Bool) (call : CallT) (mt : Nat → Option Nat) (mp : Nat → Bool) (x y : AV) (A : Hs) : R := match x with
  | .tup xs => (match y with
    | .tup ys => (match eqEls call mt mp A xs ys with
      | true => .ok (.bl b) A
      | false => .bad)
    | _ => .bad)
  | _ => .bad
def PureEq (call : CallT) (mt : Nat → Option Nat) (mp : Nat → Bool) : Prop := ∀ c f, mt c = some f → mp c = true → ∀ x y A v A', call f [x, y] A = .ok v A' → A' = A
section
variable {X : Cx} {fa fc : Nat → Addr} {fds : Nat → FuncData} {PS : Nat → List Str} {call : CallT} {k : Nat} {mt : Nat → Option Nat} {mp : Nat → Bool} {pins : List (Addr × Obj)} {σ : L2.St}
def Jt (X : Cx) (G : Gl) (pins : List (Addr × Obj)) (σ : L2.St) (ρ : Rho) (A : Hs) (H : Hp) (s : Shared) : Prop := ∃ H' ρ', Inv X pins σ H' s ∧ Ext ρ H ρ' H' ∧ Rel G ρ' A H'
/-- one reading, or where it says nothing another one -/
def vOr (f g : AV → AV → Hs → R) (x y : AV) (A : Hs) : R := match f x y A with
  | .bad => g x y A
  | r => r
end
end Ev
namespace Ev
open PySem PySem.Spec PyProof.Rows L2
def mNil : AV → CS := fun _ e A => .nx e A
def mVal (c : AV) (b : CS) (r : AV → CS) : AV → CS := fun v e A => match vEq v c A with
  | .ok (.bl t) A1 => pick t (b e A1) (r v e A1)
  | _ => .bad
def mAny (b : CS) : AV → CS := fun _ => b
def sMatch (c : CE) (m : AV → CS) : CS := fun e A => match c e A with
  | .ok v A => m v e A
  | .bad => .bad
/-- cases, once the subject is known -/
def PMc (G : Gl) (X : Cx) (cs : List MatchCase) (m : AV → CS) : Prop := ∀ (first : Bool) (pins : List (Addr × Obj)) (s : Shared) (σ : L2.St) (H : Hp) (D : Ends) (v : AV) (x : V) (u : Value) (ρ : Rho) (A : Hs) (e : En),
  Inv X pins σ H s → RelV x u → Rel G ρ A H → ERel G ρ H e σ → VRel G ρ H false v x → KS G ρ H D (m v e A) → wpAny (model X.prog X.w) X.A (matchCases cs X.env u first) (SP X pins D) X.xe s
section
variable {G : Gl} {X : Cx} {fa fc : Nat → Addr} {subj : Expr} {pos p1 p2 : Pos} {cs : List MatchCase} {body : List Stmt} {m : AV → CS} {b : CS} {c : CE}
end
end Ev
namespace Ev
open PySem PySem.Spec PyProof.Rows L2
/-- min of a tuple of ints; of a list or a tuple -/
def vMinT (x : AV) (A : Hs) : R := match x with
  | .tup xs => (match intsOf xs with
    | some ns => (match ns with
      | [] => .bad
      | n :: r => .ok (.int (minL r n)) A)
    | none => .bad)
  | _ => .bad
def vMinU (x : AV) (A : Hs) : R := match x with
  | .tup xs => vMinT (.tup xs) A
  | x => vMinL x A
section
variable {X : Cx}
def rMinT (K : PySem.W.Frag) : List V → L2.Hp → VK → Prop := fun vs H Q => ∃ (a : Addr) (n : Int) (ns : List Int), vs = [V.ref a] ∧ SqT K H a ((n :: ns).map V.int) ∧ Q (.int (ns.foldl min n)) H
end
end Ev
namespace Ev
open PySem PySem.Spec PyProof.Rows L2
def gUnl' (n : Nat) (r : List AV → En → Hs → RG) : CG := fun v e A => match sqlOf A v with
  | some xs => (match decide (xs.length = n) with
    | true => r xs e A
    | false => .bad)
  | none => .bad
def cFz (c : CE) : CE := fun e A => match c e A with
  | .ok v A1 => fin1 A.length v A1
  | .bad => .bad
def sFldA (ix : Nat → Option Nat) (o : CE) (f : AV → AV → Hs → R) (c : CE) : CS := fun e A => match o e A with
  | .ok x A => (match x with
    | .ref j => (match A[j]? with
      | some (.ins d fs) => (match plainNm d with
        | [] => .bad
        | _ :: _ => (match ix d with
          | some i => (match fs[i]? with
            | some .und => .bad
            | some v => (match c e A with
              | .ok w A => (match f v w A with
                | .ok z A => (match A[j]? with
                  | some (.ins d' fs') => (match Nat.beq d' d with
                    | true => .nx e (A.set j (.ins d (setF fs' i z)))
                    | false => .bad)
                  | _ => .bad)
                | .bad => .bad)
              | .bad => .bad)
            | none => .bad)
          | none => .bad))
      | _ => .bad)
    | _ => .bad)
  | .bad => .bad
section
variable {X : Cx} {fa fc : Nat → Addr} {o a : Expr} {co ca : CE} {pos tpos : Pos} {fl : Str} {ix : Nat → Option Nat}
/-- what comes of it is locked, what it made is let go -/
theorem pec_fz {a : Expr} {c : CE} (h : PEc (gl X fa fc) X a c) : PEc (gl X fa fc) X a (cFz c) := h.imp fun σ H Q ⟨ρ, A, e, r, er, vr, w, A', hc, q⟩ => by
  unfold cFz at hc
  cases h1 : c e A with
  | bad => rw [h1] at hc; cases hc
  | ok v A1 =>
    rw [h1] at hc
    exact ⟨ρ, A, e, r, er, vr, v, A1, h1, fun ρ1 H1 x ex r1 vx => let ⟨ρ2, ex2, r2, v2⟩ := fin1_ok r ex r1 vx hc; q ρ2 H1 x ex2 r2 v2⟩
end
end Ev
namespace Ev
open PySem PySem.Spec PyProof.Rows L2
def lendV (n0 : Nat) (A : Hs) : AV → Option AV
  | .ref i => (match Nat.blt i n0 with
    | true => none
    | false => (match A[i]? with
      | some (.lst xs) => pick (allF xs) (some (.lst xs)) none
      | _ => none))
  | .mix _ => none
  | .und => none
  | v => some v
/-- what is told holds no list -/
def lentV : Nat → AV → Bool
  | 0, _ => false
  | k + 1, v => match v with
    | .non => true
    | .bl _ => true
    | .int _ => true
    | .str _ => true
    | .tup xs => xs.all (lentV k)
    | .obj c fs => (match plainNm c with
      | [] => (match fs with
        | [] => false
        | x :: r => (x :: r).all (lentV k))
      | _ => false)
    | _ => false
def tabC : Cell → Bool
  | .tab _ => true
  | _ => false
def lstC : Cell → Bool
  | .lst _ => true
  | _ => false
def lntC : Cell → Bool
  | .lst xs => xs.all (lentV 5)
  | _ => false
def lndB (n0 n : Nat) (v : AV) : Option AV := match v with
  | .ref i => (match Nat.blt i n0 with
    | true => none
    | false => some (.ref (n + (i - n0))))
  | v => pick (lentV 5 v) (some v) none
def lnd (n0 : Nat) (call : CallT) : CallT := fun f us A => match optAll (lendV n0 A) us with
  | some us' => pick (Nat.ble n0 A.length && ((A.take n0).all tabC && (A.drop n0).all lstC)) (match call f us' (A.take n0) with
    | .ok w B => (match lndB n0 A.length w with
      | some w' => pick ((B.take n0).all tabC && (B.drop n0).all lntC) (.ok w' (B.take n0 ++ (A.drop n0 ++ B.drop n0))) .bad
      | none => .bad)
    | .bad => .bad) .bad
  | none => .bad
theorem pick_ok {b : Bool} {x : R} {v : AV} {A : Hs} (h : pick b x .bad = .ok v A) : b = true ∧ x = .ok v A := by
  cases b with
  | true => exact ⟨rfl, h⟩
  | false => cases h
theorem all_tab {n : Nat} : ∀ {A : Hs}, A.all tabC = true → A.all (lowC n) = true
  | [], _ => rfl
  | c :: r, h => by
    rw [List.all_cons, Bool.and_eq_true] at h ⊢
    refine ⟨?_, all_tab h.2⟩
    cases c <;> first | rfl | cases h.1
section
variable {G : Gl} {ρ ρ2 ρ3 : Rho} {H H2 : Hp} {A : Hs}
theorem lend_ok {ρ' : Rho} (hc : Cut ρ' ρ) (r : Rel G ρ A H) {n0 : Nat} (hn : n0 = ρ'.c.length) {x : AV} {v : V} {y : AV} (h : VRel G ρ H false x v) (e : lendV n0 A x = some y) : VRel G ρ' H false y v := by
  cases h with
  | non => cases e; exact .non
  | bl => cases e; exact .bl
  | int => cases e; exact .int
  | str => cases e; exact .str
  | tup f t => cases e; exact .tup (f.cut hc.s) (VRels.cutF hc.s t)
  | lst f n t => cases e; exact .lst f (hc.s n) (VRels.cutF hc.s t)
  | scr f t => cases e; exact .scr (f.cut hc.s) (VRels.cutF hc.s t)
  | obj s n1 n2 d t => cases e; exact .obj s (hc.s n1) (hc.s n2) d (FRels.cutF hc.s t)
  | dct f n t => cases e; exact .dct f (hc.s n) (VRels.cutF hc.s t)
  | fn => cases e; exact .fn
  | ty => cases e; exact .ty
  | cls => cases e; exact .cls
  | mix f t => cases e
  | @ref i p hp =>
    unfold lendV at e
    dsimp only at e
    cases hb : Nat.blt i n0 with
    | true => rw [hb] at e; cases e
    | false =>
    rw [hb] at e
    dsimp only at e
    have ge := blt_ge hb
    obtain ⟨b1, _⟩ := hc.behind r (by omega) hp
    split at e
    · rename_i xs hA
      cases hF : allF xs with
      | false => rw [hF] at e; cases e
      | true =>
        rw [hF] at e
        cases e
        obtain ⟨_, vs, q1, q2⟩ := r.cell i _ p hA hp
        exact .lst q1 b1 (VRels.cutF hc.s (q2.fz hF))
    · cases e
theorem slO_lst {a C dx : Addr} {vs : List (Option V)} (xs : List V) : SlX.SlO a C dx vs ≠ .lst xs := fun z => by
  unfold SlX.SlO at z
  cases z
mutual
theorem lent_ok (on3 : ∀ {a : Addr} {o : HO}, H2 a = some o → (∀ vs, o ≠ .lst vs) → ¬ ρ2.on a → ¬ ρ3.on a) : ∀ (k : Nat) {x : AV} {v : V} {b t : Bool}, lentV k x = true → VRel G ρ2 H2 b x v → VRel G ρ3 H2 t x v
  | 0, x, v, b, t, e, h => by unfold lentV at e; cases e
  | k + 1, x, v, b, t, e, h => by
    unfold lentV at e
    cases h with
    | non => exact .non
    | bl => exact .bl
    | int => exact .int
    | str => exact .str
    | tup f q => exact .tup ⟨f.1, on3 f.1 (fun _ z => by cases z) f.2⟩ (lent_oks on3 k e q)
    | @obj _ c fs a dx vs s n1 n2 d q =>
      dsimp only at e
      cases hp : plainNm c with
      | cons _ _ => rw [hp] at e; cases e
      | nil =>
        rw [hp] at e
        dsimp only at e
        cases fs with
        | nil => cases e
        | cons x r =>
          cases s with
          | pl hp' => exact absurd hp hp'
          | sl _ s =>
            have hne : vs ≠ [] := by
              rintro rfl
              cases q with
              | undn q =>
                dsimp only at e
                rw [List.all_cons, Bool.and_eq_true] at e
                have e1 := e.1
                cases k <;> (unfold lentV at e1; cases e1)
            rcases s with ⟨s1, s2⟩ | ⟨s1, s2⟩
            · exact absurd s2 hne
            · exact .obj (.sl hp (.inr ⟨s1, s2⟩)) (on3 s1 slO_lst n1) (on3 s2 (fun _ z => by cases z) n2) d (lent_okf on3 k e q)
    | lst => cases e
    | scr => cases e
    | dct => cases e
    | ref => cases e
    | mix => cases e
    | fn => cases e
    | ty => cases e
    | cls => cases e
theorem lent_oks (on3 : ∀ {a : Addr} {o : HO}, H2 a = some o → (∀ vs, o ≠ .lst vs) → ¬ ρ2.on a → ¬ ρ3.on a) : ∀ (k : Nat) {x : List AV} {v : List V} {b t : Bool}, x.all (lentV k) = true → VRels G ρ2 H2 b x v → VRels G ρ3 H2 t x v
  | _, _, _, _, _, _, .nil => .nil
  | k, _, _, _, _, e, .cons h q => by
    rw [List.all_cons, Bool.and_eq_true] at e
    exact .cons (lent_ok on3 k e.1 h) (lent_oks on3 k e.2 q)
theorem lent_okf (on3 : ∀ {a : Addr} {o : HO}, H2 a = some o → (∀ vs, o ≠ .lst vs) → ¬ ρ2.on a → ¬ ρ3.on a) : ∀ (k : Nat) {x : List AV} {v : List (Option V)} {b t : Bool}, x.all (lentV k) = true → FRels G ρ2 H2 b x v → FRels G ρ3 H2 t x v
  | _, _, _, _, _, _, .nil => .nil
  | k, _, _, _, _, e, .und q => by
    rw [List.all_cons, Bool.and_eq_true] at e
    have e1 := e.1
    cases k <;> (unfold lentV at e1; cases e1)
  | k, _, _, _, _, e, .undn q => by
    rw [List.all_cons, Bool.and_eq_true] at e
    have e1 := e.1
    cases k <;> (unfold lentV at e1; cases e1)
  | k, _, _, _, _, e, .cons h q => by
    rw [List.all_cons, Bool.and_eq_true] at e
    exact .cons (lent_ok on3 k e.1 h) (lent_okf on3 k e.2 q)
end
end
theorem codeO_lst {c : Addr} {q : Str} (xs : List V) : LamX.CodeO c q ≠ .lst xs := fun z => by
  unfold LamX.CodeO at z
  cases z
theorem lnd_sp {G : Gl} {n0 : Nat} {call : CallT} {f : Nat} {vs : List V} {H : Hp} {Q : VK} {E : XK} (h : spF G (lnd n0 call) f vs H Q E) : spF G call f vs H Q E := by
  obtain ⟨ρ, A, us, r, vr, w3, A3, hc, kk⟩ := h
  unfold lnd at hc
  cases hus : optAll (lendV n0 A) us with
  | none => rw [hus] at hc; cases hc
  | some us' =>
  rw [hus] at hc
  obtain ⟨hck, hc⟩ := pick_ok hc
  rw [Bool.and_eq_true, Bool.and_eq_true] at hck
  obtain ⟨hn0, htab, hlst⟩ := hck
  have hn : n0 ≤ A.length := Nat.le_of_ble_eq_true hn0
  cases hcall : call f us' (A.take n0) with
  | bad => rw [hcall] at hc; cases hc
  | ok w B =>
  rw [hcall] at hc
  dsimp only at hc
  cases hw : lndB n0 A.length w with
  | none => rw [hw] at hc; cases hc
  | some w' =>
  rw [hw] at hc
  obtain ⟨hck2, hc⟩ := pick_ok hc
  rw [Bool.and_eq_true] at hck2
  obtain ⟨htab2, hlnt⟩ := hck2
  cases hc
  have cut : Cut (⟨ρ.c.take n0, ρ.v⟩ : Rho) ρ := ⟨⟨ρ.c.drop n0, by simp⟩, rfl⟩
  have hl := r.len
  have hl0 : n0 = (⟨ρ.c.take n0, ρ.v⟩ : Rho).c.length := by simp; omega
  have r' : Rel G ⟨ρ.c.take n0, ρ.v⟩ (A.take n0) H := r.cut cut hl0 (all_tab htab)
  have vr' : VRels G ⟨ρ.c.take n0, ρ.v⟩ H false us' vs := optAll_rel (fun x v y hx e => lend_ok cut r hl0 hx e) vr hus
  refine ⟨⟨ρ.c.take n0, ρ.v⟩, A.take n0, us', r', vr', w, B, hcall, fun ρ2 H2 x ex r2 vx => ?_⟩
  obtain ⟨ν, e1, e2, hν⟩ := ex.app
  dsimp only at e1 e2
  have ex3 : Ext ρ H ⟨ρ.c ++ ν, ρ.v⟩ H2 := ⟨⟨ν, rfl, rfl, hν⟩, fun a o h n => ex.keep a o h fun ⟨p, hp, z⟩ => n ⟨p, List.mem_of_mem_take hp, z⟩⟩
  have hidx : ∀ (i : Nat) (p : Addr × Addr), n0 ≤ i → ρ.c[i]? = some p → ∃ xs vs, A[i]? = some (.lst xs) ∧ CRel G ρ H (.lst xs) p ∧ p.2 = p.1 ∧ H p.1 = some (.lst vs) ∧ H2 p.1 = some (.lst vs) := fun i p hi hp => by
    have hlt : i < A.length := by rw [← r.len]; exact (List.getElem?_eq_some_iff.mp hp).1
    have hA := List.getElem?_eq_getElem hlt
    have hm : lstC A[i] = true := List.all_eq_true.mp hlst _ (by
      rw [List.mem_iff_getElem]
      exact ⟨i - n0, by simp; omega, by simp; congr 1; omega⟩)
    cases hcell : A[i] with
    | lst xs =>
      rw [hcell] at hA
      have hcr := r.cell i _ p hA hp
      obtain ⟨q1, us1, q2, q3⟩ := id hcr
      refine ⟨xs, us1, hA, hcr, q1, q2, ex.kp q2 ?_⟩
      exact (cut.behind r (by simpa using Nat.le_trans (Nat.min_le_left _ _) hi) hp).1
    | ins c fs => rw [hcell] at hm; cases hm
    | dct b ks xs => rw [hcell] at hm; cases hm
    | tab j => rw [hcell] at hm; cases hm
  have memc : ∀ p ∈ ρ.c, p ∈ ρ.c.take n0 ∨ ∃ i, n0 ≤ i ∧ ρ.c[i]? = some p := fun p hp => by
    obtain ⟨i, hi, e⟩ := List.mem_iff_getElem.mp hp
    by_cases h : i < n0
    · left
      rw [List.mem_iff_getElem]
      exact ⟨i, by simp; omega, by simp; exact e⟩
    · right
      exact ⟨i, by omega, by rw [List.getElem?_eq_getElem hi, e]⟩
  have on3 : ∀ {a : Addr} {o : HO}, H2 a = some o → (∀ vs, o ≠ .lst vs) → ¬ ρ2.on a → ¬ (⟨ρ.c ++ ν, ρ.v⟩ : Rho).on a := fun {a o} ha hno n => by
    rintro (⟨p, hp, z⟩ | z)
    · rcases List.mem_append.mp hp with hp | hp
      · rcases memc p hp with hp | ⟨i, hi, hp⟩
        · exact n (.inl ⟨p, by rw [e1]; exact List.mem_append_left _ hp, z⟩)
        · obtain ⟨xs, us1, _, _, q1, _, q3⟩ := hidx i p hi hp
          have : a = p.1 := by rcases z with z | z
                               · exact z
                               · exact z.trans q1
          rw [this, q3] at ha
          cases ha
          exact hno _ rfl
      · exact n (.inl ⟨p, by rw [e1]; exact List.mem_append_right _ hp, z⟩)
    · exact n (.inr (by rw [e2]; exact z))
  have hl2 := r2.len
  rw [e1, List.length_append, List.length_take] at hl2
  have hBl : B.length = n0 + ν.length := by omega
  have get_lo : ∀ i, i < n0 → ρ2.c[i]? = ρ.c[i]? := fun i hi => by
    rw [e1, List.getElem?_append_left (by simp; omega)]
    simp [hi]
  have get_hi : ∀ j, ρ2.c[n0 + j]? = ν[j]? := fun j => by
    rw [e1, List.getElem?_append_right (by simp; omega)]
    congr 1
    simp; omega
  have get3_lo : ∀ i, i < ρ.c.length → (ρ.c ++ ν)[i]? = ρ.c[i]? := fun i hi => List.getElem?_append_left hi
  have get3_hi : ∀ j, (ρ.c ++ ν)[ρ.c.length + j]? = ν[j]? := fun j => by
    rw [List.getElem?_append_right (by omega)]
    congr 1; omega
  have r3 : Rel G ⟨ρ.c ++ ν, ρ.v⟩ (B.take n0 ++ (A.drop n0 ++ B.drop n0)) H2 := by
    refine ⟨by simp; omega, ?_, fun i c p hi hp => ?_, fun a ha => ?_⟩
    · refine List.pairwise_append.mpr ⟨r.pw, ?_, fun p hp q hq => ?_⟩
      · have := r2.pw
        rw [e1] at this
        exact (List.pairwise_append.mp this).2.1
      · obtain ⟨q1, q2⟩ := hν q hq
        obtain ⟨o1, p1⟩ := r.fullC (a := p.1) ⟨p, hp, .inl rfl⟩
        obtain ⟨o2, p2⟩ := r.fullC (a := p.2) ⟨p, hp, .inr rfl⟩
        exact ⟨ne_of_none p1 q1, ne_of_none p1 q2, ne_of_none p2 q1, ne_of_none p2 q2⟩
    · dsimp only at hp
      by_cases h1 : i < n0
      · rw [List.getElem?_append_left (by simp; omega)] at hi
        rw [get3_lo i (by omega), ← get_lo i h1] at hp
        have hiB : B[i]? = some c := by simpa [h1] using hi
        have ht : tabC c = true := List.all_eq_true.mp htab2 _ (List.mem_of_getElem? hi)
        have hcr := r2.cell i c p hiB hp
        cases c with
        | tab j =>
          obtain ⟨a1, a2, ps, d1, d2, d3⟩ := hcr
          exact ⟨a1, a2, ps, d1, d2, fun pos cv hcv => let ⟨c, f1, f2, f3⟩ := d3 pos cv hcv; ⟨c, f1, f2, on3 f2 codeO_lst f3⟩⟩
        | lst _ => cases ht
        | ins _ _ => cases ht
        | dct _ _ _ => cases ht
      · rw [List.getElem?_append_right (by simp; omega)] at hi
        have e3 : i - (B.take n0).length = i - n0 := by simp; omega
        rw [e3] at hi
        by_cases h2 : i < A.length
        · rw [List.getElem?_append_left (by simp; omega)] at hi
          rw [get3_lo i (by omega)] at hp
          obtain ⟨xs, us1, hA, hcr, q1, q2, q3⟩ := hidx i p (by omega) hp
          have : c = .lst xs := by
            rw [List.getElem?_drop, show n0 + (i - n0) = i by omega, hA] at hi
            exact (Option.some.inj hi).symm
          subst this
          exact hcr.mono ex3 (q3.trans q2.symm) (by rw [q1]; exact q3.trans q2.symm)
        · rw [List.getElem?_append_right (by simp; omega)] at hi
          have e4 : i - n0 - (A.drop n0).length = i - A.length := by simp; omega
          rw [e4, List.getElem?_drop] at hi
          have hp' : ρ2.c[n0 + (i - A.length)]? = some p := by
            rw [get_hi, ← hp, ← get3_hi]
            congr 1; omega
          have ht : lntC c = true := List.all_eq_true.mp hlnt _ (by
            rw [List.mem_iff_getElem?]
            exact ⟨i - A.length, by rw [List.getElem?_drop]; exact hi⟩)
          have hcr := r2.cell _ c p hi hp'
          cases c with
          | lst xs =>
            obtain ⟨q1, us1, q2, q3⟩ := hcr
            exact ⟨q1, us1, q2, lent_oks on3 5 ht q3⟩
          | tab _ => cases ht
          | ins _ _ => cases ht
          | dct _ _ _ => cases ht
    · have h2 := r2.pv a (by rw [e2]; exact ha)
      refine ⟨?_, h2.2⟩
      rintro ⟨p, hp, z⟩
      rcases List.mem_append.mp hp with hp | hp
      · exact (r.pv a ha).1 ⟨p, hp, z⟩
      · exact h2.1 ⟨p, by rw [e1]; exact List.mem_append_right _ hp, z⟩
  refine kk _ H2 x ex3 r3 ?_
  unfold lndB at hw
  cases vx with
  | @ref i p hp =>
    dsimp only at hw
    cases hb : Nat.blt i n0 with
    | true => rw [hb] at hw; cases hw
    | false =>
      rw [hb] at hw
      cases hw
      have ge := blt_ge hb
      refine .ref ?_
      show (ρ.c ++ ν)[A.length + (i - n0)]? = some p
      rw [← r.len, get3_hi, ← get_hi, ← hp]
      congr 1; omega
  | non => cases hw; exact .non
  | bl => cases hw; exact .bl
  | int => cases hw; exact .int
  | str => cases hw; exact .str
  | tup f t =>
    dsimp only at hw
    cases hl : lentV 5 (.tup _) with
    | false => rw [hl] at hw; cases hw
    | true => rw [hl] at hw; cases hw; exact lent_ok on3 5 hl (VRel.tup (t := true) f t)
  | obj s n1 n2 d t =>
    dsimp only at hw
    cases hl : lentV 5 (.obj _ _) with
    | false => rw [hl] at hw; cases hw
    | true => rw [hl] at hw; cases hw; exact lent_ok on3 5 hl (VRel.obj (t := true) s n1 n2 d t)
  | lst => cases hw
  | scr => cases hw
  | dct => cases hw
  | mix => cases hw
  | fn => cases hw
  | ty => cases hw
  | cls => cases hw
theorem lnd_ok {P : Program} {w : World} {K : PySem.W.Frag} {mg : Str → Option Value} {base : Heap} {CX : CXT} {k : Nat} {a : Addr} {fd : FuncData} {ps : List Str} {G : Gl} {n0 f : Nat} {call : CallT} (F : FnOk P w K mg base CX k a fd ps (spF G call f)) : FnOk P w K mg base CX k a fd ps (spF G (lnd n0 call) f) := F.imp fun _ _ _ _ h => lnd_sp h
end Ev
namespace Ev
open PySem PySem.Spec PyProof.Rows L2
def isCls (c : Nat) : AV → Bool
  | .cls d => Nat.beq d c
  | _ => false
theorem isCls_ok {c : Nat} {x : AV} (h : isCls c x = true) : x = .cls c := by
  cases x with
  | cls d => rw [show d = c from Nat.eq_of_beq_eq_true h]
  | _ => cases h
def cCmK (call : CallT) (c f n m : Nat) (o : CE) (args kw : CA) : CE := fun e A => match o e A with
  | .ok x A => guard' (isCls c x) (match args e A with
    | .ok xs A => (match kw e A with
      | .ok ys A => guard' (Nat.beq xs.length n && Nat.beq ys.length m) (call f (.cls c :: (xs ++ ys)) A)
      | .bad => .bad)
    | .bad => .bad)
  | .bad => .bad
section
variable {X : Cx} {fa fc : Nat → Addr} {fds : Nat → FuncData} {PS : Nat → List Str} {call : CallT} {k c f n : Nat} {m x : Str} {ks : List Str} {o e : Expr} {es : List Expr} {kws : List Keyword} {co ca cb : CE} {cr ck : CA} {p pos apos : Pos} {pa : Addr} {mc : Value} {g : List Value → List Value → List Value}
/-- cls(e, .., k = v, ..): the i-th name holds the class c -/
def cNewV (i c : Nat) (code : CE) : CE := fun e A => match e[i]? with
  | some v => guard' (isCls c v) (code e A)
  | none => .bad
theorem pec_newV {i j : Nat} {keep : Bool} (M : Mk X.K (fc c) (fa j)) (F : FnOk X.prog X.w X.K X.mg X.base CX0 k (fa j) (fds j) (PS j) (spF (gl X fa fc) call j)) (hr : Room (k + 1) X.A) (hN : X.N[i]? = some x) (hv : Vis X.env.scope x) (hb : KBn X.K (fds j) (PS j) (n + 1) ks g (fun vs zs => vs ++ zs))
    (ha : PAc (gl X fa fc) X (e :: es) cr) (hkw : PKc (gl X fa fc) X kws ck) (hn : ∀ e A xs A', cr e A = .ok xs A' → xs.length = n) (hm2 : ∀ e A xs A', ck e A = .ok xs A' → xs.length = ks.length)
    (hall : (backToKw pos (keywordEach kws X.env)).all (·.1.isSome) = true := by rfl) (hks : (backToKw pos (keywordEach kws X.env)).filterMap (·.1) = ks := by rfl) (hdb : (x == ("__debug__" : Str)) = false := by decide) (hcd : (x == ("__classdict__" : Str)) = false := by decide)
    (he : starEach (e :: es) X.env = (false, eval e X.env) :: starEach es X.env := by rfl) (hpl : ((backTo pos (starEach (e :: es) X.env)).any (·.1) || (backToKw pos (keywordEach kws X.env)).any (·.1.isNone)) = false := by rfl) :
    PEc (gl X fa fc) X (.Call (.Name x p) (e :: es) kws pos) (cNewV i c (cNew call c j keep [] (aApp cr ck))) := by
  refine ⟨fun pins s σ H Q I h => ?_⟩
  obtain ⟨ρ, A, e', r, er, vr, w, A', hc, q⟩ := h
  unfold cNewV at hc
  split at hc
  · rename_i v hi
    replace hc := guard_ok hc
    obtain rfl := isCls_ok hc.1
    replace hc := hc.2
    obtain ⟨v, hv1, hv2⟩ := er.get hi (by intro z; cases z)
    cases hv2
    refine wpAny_Call_Name_kw (thn ((pe_var (pos := p) hN hv hdb hcd).run pins s σ H (fun v H1 => v = .ref (fc c) ∧ H1 = H) I ⟨_, hv1, rfl, rfl⟩) fun u s1 ⟨v, H1, I1, r1, q1⟩ => ?_)
    obtain ⟨rfl, rfl⟩ := q1
    obtain rfl : u = Value.ref (fc c) := r1
    obtain ⟨us0, A1, h1, h2⟩ := RA.bind_ok hc
    unfold aApp at h1
    cases h3 : cr e' A with
    | bad => rw [h3] at h1; cases h1
    | ok xs B =>
      rw [h3] at h1
      dsimp only at h1
      cases h4 : ck e' B with
      | bad => rw [h4] at h1; cases h1
      | ok ys B2 =>
        rw [h4] at h1
        cases h1
        dsimp only at h2
        rw [List.append_nil] at h2
        refine PySem.W.callWith_KW (h₀ := X.base) I1.ok.mod.kin M.kp hall (thn (ha.run pos pins s1 σ _ (fun ws H2 => ∃ ρ2, Ext ρ H1 ρ2 H2 ∧ Rel (gl X fa fc) ρ2 B H2 ∧ VRels (gl X fa fc) ρ2 H2 false xs ws) I1 ⟨ρ, A, e', r, er, .nil, xs, B, h3, fun ρ2 H2 ws ex2 r2 vw => ⟨ρ2, ex2, r2, vw⟩⟩) fun us s2 ⟨ws, H2, I2, rw1, ρ2, ex2, r2, vw⟩ => ?_) hpl he
        refine thn (hkw.run pos pins s2 σ H2 (fun zs H3 => ∃ ρ3, Ext ρ2 H2 ρ3 H3 ∧ Rel (gl X fa fc) ρ3 A1 H3 ∧ VRels (gl X fa fc) ρ3 H3 false ys zs) I2 ⟨ρ2, B, e', r2, er.mono ex2, .nil, ys, A1, h4, fun ρ3 H3 zs ex3 r3 vz => ⟨ρ3, ex3, r3, vz⟩⟩) fun ts s3 ⟨zs, H3, I3, rz, ρ3, ex3, r3, vz⟩ => ⟨I3.kIn, ?_⟩
        rw [hks]
        refine run_makeK (E := E0) M F hr hb pass0 I3 rw1 rz (by rw [← vw.length]; exact hn _ _ _ _ h3) (by rw [← vz.length]; exact hm2 _ _ _ _ h4) ?_
        intro a dx hna hnd hne
        exact vNew_ok (G := gl X fa fc) r3 ((vw.mono ex3).append vz) h2 (fun ρ4 H4 z ex4 r4 v4 => q ρ4 H4 z ((ex2.trans r2 ex3).trans r3 ex4) r4 v4) a dx hna hnd hne
  · cases hc
structure PrOk (X : Cx) (fa fc : Nat → Addr) (fds : Nat → FuncData) (PS : Nat → List Str) (call : CallT) (k : Nat) (m : Str) (c f : Nat) : Prop where
  pl : plainNm c ≠ []
  cl : Cls X.K (fc c)
  pr : ∃ p, PropOf X.K (fc c) m p (fa f)
  ok : FnOk X.prog X.w X.K X.mg X.base CX0 k (fa f) (fds f) (PS f) (spF (gl X fa fc) call f)
  bi : Binds X.K (fds f) (PS f) []
def cProp (call : CallT) (mt : Nat → Option Nat) (o : CE) : CE := fun e A => match o e A with
  | .ok x A => (match insOf A x with
    | some (c, _) => (match mt c with
      | some f => call f [x] A
      | none => .bad)
    | none => .bad)
  | .bad => .bad
end
end Ev
namespace Ev
open PySem PySem.Spec PyProof.Rows L2
section
variable {G : Gl} {X : Cx} {pos : Pos} {σ : L2.St} {H : Hp} {Q : VK}
/-- {} that changes -/
def cDctM (t : Bool) : CE := fun _ A => .ok (.ref A.length) (A ++ [.dct t [] []])
end
end Ev
namespace Ev
open PySem PySem.Spec PyProof.Rows L2
def kEq : Key → Key → Bool
  | .inl i, .inl j => decide (i = j)
  | .inr x, .inr y => decide (x = y)
  | _, _ => false
def ksEq : List Key → List Key → Bool
  | [], [] => true
  | a :: r, b :: s => (match kEq a b with
    | true => ksEq r s
    | false => false)
  | _, _ => false
def keyA : AV → Option Key
  | .int i => some (.inl i)
  | .str x => some (.inr x)
  | _ => none
def keyOf : Bool → AV → Option (List Key)
  | false, x => (match keyA x with
    | some k => some [k]
    | none => none)
  | true, .tup xs => optAll keyA xs
  | true, _ => none
def dctOf (A : Hs) : AV → Option (Bool × List (List Key) × List AV)
  | .dct b ks xs => some (b, ks, xs)
  | .ref i => (match A[i]? with
    | some (.dct b ks xs) => some (b, ks, xs)
    | _ => none)
  | _ => none
def dLook {α : Type} : List (List Key) → List α → List Key → Option α
  | k' :: ks, x :: xs, k => (match ksEq k' k with
    | true => some x
    | false => dLook ks xs k)
  | _, _, _ => none
def dHas (k : List Key) : List (List Key) → Bool
  | [] => false
  | k' :: ks => (match ksEq k' k with
    | true => true
    | false => dHas k ks)
def dRep {α : Type} (k : List Key) (y : α) : List (List Key) → List α → List α
  | k' :: ks, x :: xs => (match ksEq k' k with
    | true => y
    | false => x) :: dRep k y ks xs
  | _, _ => []
def dPutK (k : List Key) (ks : List (List Key)) : List (List Key) := match dHas k ks with
  | true => ks
  | false => ks ++ [k]
def dPutX {α : Type} (k : List Key) (y : α) (ks : List (List Key)) (xs : List α) : List α := match dHas k ks with
  | true => dRep k y ks xs
  | false => xs ++ [y]
section
variable {α : Type}
end
section
variable {G : Gl} {ρ : Rho} {A : Hs} {H : Hp}
theorem keyA_ok {t : Bool} {x : AV} {v : V} {k : Key} (h : VRel G ρ H t x v) (e : keyA x = some k) : v = kV k := by
  cases h with
  | int => cases e; rfl
  | str => cases e; rfl
  | _ => cases e
theorem keys_ok : ∀ {t : Bool} {xs : List AV} {vs : List V} {ks : List Key}, VRels G ρ H t xs vs → optAll keyA xs = some ks → vs = ks.map kV
  | _, _, _, _, .nil, e => by cases e; rfl
  | _, _, _, _, .cons h t, e => by
    unfold optAll at e
    split at e
    · rename_i y h1
      split at e
      · rename_i zs h2
        cases e
        rw [keyA_ok h h1, keys_ok t h2]
        rfl
      · cases e
    · cases e
end
def vInD (call : CallT) (mt : Nat → Option Nat) (x y : AV) (A : Hs) : R := match dctOf A y with
  | some (b, ks, xs) => (match keyOf b x with
    | some k => .ok (.bl (dLook ks xs k).isSome) A
    | none => .bad)
  | none => vInO call mt x y A
def vNotInD (call : CallT) (mt : Nat → Option Nat) (x y : AV) (A : Hs) : R := match dctOf A y with
  | some (b, ks, xs) => (match keyOf b x with
    | some k => .ok (.bl (!(dLook ks xs k).isSome)) A
    | none => .bad)
  | none => vNotInO call mt x y A
def vIxD (call : CallT) (mt : Nat → Option Nat) (x y : AV) (A : Hs) : R := match dctOf A x with
  | some (b, ks, xs) => (match keyOf b y with
    | some k => (match dLook ks xs k with
      | some v => .ok v A
      | none => .bad)
    | none => .bad)
  | none => vIxO call mt x y A
def vLenD (call : CallT) (mt : Nat → Option Nat) (x : AV) (A : Hs) : R := match dctOf A x with
  | some (_, ks, _) => .ok (.int ks.length) A
  | none => vLenO call mt x A
section
variable {X : Cx} {fa fc : Nat → Addr} {fds : Nat → FuncData} {PS : Nat → List Str} {call : CallT} {k : Nat} {mt : Nat → Option Nat} {a b o e : Expr} {co ca cb : CE} {pos p : Pos} {σ : L2.St} {H : Hp} {Q : VK}
end
/-- o[i] = v, o a list or a dict -/
def sSubD (cv co ci : CE) : CS := fun e A => match cv e A with
  | .ok v A1 => (match co e A1 with
    | .ok x A2 => (match x with
      | .ref j => (match ci e A2 with
        | .ok y A3 => (match A3[j]? with
          | some (.dct b ks xs) => (match keyOf b y with
            | some k => (match Nat.blt ks.length 16777216 with
              | true => .nx e (A3.set j (.dct b (dPutK k ks) (dPutX k v ks xs)))
              | false => .bad)
            | none => .bad)
          | _ => sAsg cv (gSub' co ci) e A)
        | .bad => .bad)
      | _ => .bad)
    | .bad => .bad)
  | .bad => .bad
section
variable {X : Cx} {fa fc : Nat → Addr} {o i value : Expr} {co ci cv : CE} {pos pos' : Pos}
end
end Ev
namespace Ev
open PySem PySem.Spec PyProof.Rows L2
section
variable {G : Gl} {ρ : Rho} {A : Hs} {H : Hp}
end
inductive RD where
  | ok (ks : List (List Key)) (xs : List AV) (A : Hs)
  | bad
def dcGo (s : Src) (g : CG) (ct tk tv : CE) (e0 : En) : Nat → Nat → List (List Key) → List AV → Hs → RD
  | 0, _, _, _, _ => .bad
  | n + 1, k, ks, xs, A => match s.at A k with
    | some (some v) => (match g v e0 A with
      | .ok e A => (match ct e A with
        | .ok (.bl b) A => pick b (match tk e A with
          | .ok y A => (match tv e A with
            | .ok z A => (match keyA y with
              | some j => (match Nat.blt ks.length 16777216 with
                | true => dcGo s g ct tk tv e0 n (k + 1) (dPutK [j] ks) (dPutX [j] z ks xs) A
                | false => .bad)
              | none => .bad)
            | .bad => .bad)
          | .bad => .bad) (dcGo s g ct tk tv e0 n (k + 1) ks xs A)
        | _ => .bad)
      | .bad => .bad)
    | some none => .ok ks xs A
    | none => .bad
def kDct (ks : List (List Key)) (xs : List AV) (A : Hs) : R := guard' (allF xs) (.ok (.dct false ks xs) A)
def kDctM (ks : List (List Key)) (xs : List AV) (A : Hs) : R := .ok (.ref A.length) (A ++ [.dct false ks xs])
def cDc (kf : List (List Key) → List AV → Hs → R) (ci : CI) (g : CG) (ct tk tv : CE) (vs : List Nat) : CE := fun e A => match ci e A with
  | .ok s A => (match dcGo s g ct tk tv (wipeE e vs) 100000 0 [] [] A with
    | .ok ks xs A => kf ks xs A
    | .bad => .bad)
  | .bad => .bad
section
variable {G : Gl} {X : Cx} {kx vx tg iter c : Expr} {ifs : List Expr} {ct ck cv cc : CE} {ci : CI} {cg : CG} {g : TG} {vs : List Nat} {σ : L2.St} {H : Hp} {Q : VK}
end
def vDictC (x : AV) (A : Hs) : R := match dctOf A x with
  | some (false, ks, xs) => guard' (allF xs) (.ok (.dct false ks xs) A)
  | _ => .bad
def vDictCM (x : AV) (A : Hs) : R := match dctOf A x with
  | some (false, ks, xs) => .ok (.ref A.length) (A ++ [.dct false ks xs])
  | _ => .bad
section
variable {X : Cx}
end
end Ev
namespace Ev
open PySem PySem.Spec PyProof.Rows L2
def tListVals (te : TE) : TE := fun σ H Q => te σ H fun x H1 => ∃ (d : Addr) (kvs : List (Key × V)), x = .ref d ∧ Rd H1 d (.dK kvs) ∧ ∀ p, H1 p = none → Q (.ref p) (upd H1 p (.lst (kvs.map (·.2))))
section
variable {X : Cx} {e : Expr} {te : TE} {p apos cpos pos : Pos}
end
def vDVals (x : AV) (A : Hs) : R := match dctOf A x with
  | some (false, _, xs) => guard' (allF xs) (.ok (.lst xs) A)
  | _ => .bad
section
variable {X : Cx} {fa fc : Nat → Addr} {e : Expr} {ce : CE} {p apos cpos pos : Pos}
end
def vCount (x : AV) (us : List AV) (A : Hs) : R := match us with
  | [.int k] => (match sqlOf A x with
    | some xs => (match intsOf xs with
      | some ns => .ok (.int (ns.count k)) A
      | none => .bad)
    | none => .bad)
  | _ => .bad
/-- the first place of a number -/
def findI (k : Int) : List Int → Option Nat
  | [] => none
  | n :: r => (match decide (n = k) with
    | true => some 0
    | false => (match findI k r with
      | some j => some (j + 1)
      | none => none))
def vRemove (x : AV) (us : List AV) (A : Hs) : R := match us with
  | [.int k] => onCell (fun i ys => match intsOf ys with
    | some ns => (match findI k ns with
      | some j => .ok .non (A.set i (.lst ((ns.eraseIdx j).map .int)))
      | none => .bad)
    | none => .bad) x A
  | _ => .bad
end Ev
namespace Ev
open PySem PySem.Spec PyProof.Rows L2
def memN (f : Nat) : List Nat → Bool
  | [] => false
  | g :: r => (match Nat.beq f g with
    | true => true
    | false => memN f r)
def cCallV (call : CallT) (i : Nat) (fs : List Nat) (a : CA) : CE := fun e A => match e[i]? with
  | some (.fn f) => (match memN f fs with
    | true => (a e A).bind fun xs A => call f xs A
    | false => .bad)
  | _ => .bad
section
variable {X : Cx} {fa fc : Nat → Addr} {fds : Nat → FuncData} {PS : Nat → List Str} {call : CallT} {k i : Nat} {x : Str} {p pos : Pos} {e : Expr} {es : List Expr} {cr : CA}
end
end Ev
namespace Ev
open PySem PySem.Spec PyProof.Rows L2
/-- keys and values in turn -/
def flat2 {α : Type} : List (α × α) → List α
  | [] => []
  | (x, y) :: r => x :: y :: flat2 r
structure PDc (G : Gl) (X : Cx) (pos : Pos) (ks : List (Option Expr)) (vs : List Expr) (c : CA) : Prop where
  ex : ∃ trs, PPs X pos ks vs trs ∧ ∀ (ρ : Rho) (A : Hs) (e : En) (σ : L2.St) (H : Hp) (ws : List AV) (A' : Hs) (Q : List (V × V) → Hp → Prop), Rel G ρ A H → ERel G ρ H e σ → c e A = .ok ws A' →
    (∀ (ρ' : Rho) (H' : Hp) (ps : List (V × V)), Ext ρ H ρ' H' → Rel G ρ' A' H' → VRels G ρ' H' false ws (flat2 ps) → Q ps H') → tPairs trs σ H Q
section
variable {G : Gl} {X : Cx} {pos : Pos} {k v : Expr} {ks : List (Option Expr)} {vs : List Expr} {ck cv : CE} {c : CA} {σ : L2.St} {H : Hp} {Q : VK}
end
/-- stored one after the other -/
def dispGo : List AV → List (List Key) → List AV → Option (List (List Key) × List AV)
  | [], ks, xs => some (ks, xs)
  | k :: v :: r, ks, xs => (match keyA k with
    | some j => dispGo r (dPutK [j] ks) (dPutX [j] v ks xs)
    | none => none)
  | [_], _, _ => none
def cDisp (kf : List (List Key) → List AV → Hs → R) (c : CA) : CE := fun e A => match c e A with
  | .ok ws A => (match Nat.ble ws.length 30 with
    | true => (match dispGo ws [] [] with
      | some (ks, xs) => kf ks xs A
      | none => .bad)
    | false => .bad)
  | .bad => .bad
section
variable {G : Gl}
end
end Ev
namespace Ev
open PySem PySem.Spec PyProof.Rows L2
section
variable {G : Gl} {ρ : Rho} {A : Hs} {H : Hp} {d : Addr} {u : HO} {od : Obj}
end
def iKys (c : CE) : CI := fun e A => match c e A with
  | .ok (.dct b ks _) A => .ok (.kys b ks) A
  | _ => .bad
def iIts (c : CE) : CI := fun e A => match c e A with
  | .ok (.dct false ks xs) A => .ok (.its ks xs) A
  | _ => .bad
def iVls (c : CE) : CI := fun e A => match c e A with
  | .ok (.dct false _ xs) A => .ok (.vls xs) A
  | _ => .bad
/-- a dict, or what else is walked -/
def iOr (c : CE) (d : CI) : CI := fun e A => match c e A with
  | .ok (.dct b ks _) A => .ok (.kys b ks) A
  | _ => d e A
section
variable {G : Gl} {X : Cx} {tg e : Expr} {ce : CE} {apos cpos tpos : Pos} {elts : List Expr} {kk : Nat}
end
def intKs : List (List Key) → Option (List Int)
  | [] => some []
  | [.inl i] :: r => (match intKs r with
    | some is => some (i :: is)
    | none => none)
  | _ :: _ => none
end Ev
namespace Ev
open PySem PySem.Spec PyProof.Rows L2
/-- v is a tuple that holds these numbers -/
def IsTp (h : Heap) (v : Value) (ns : List Int) : Prop := ∃ (a : Addr) (items : Array Value), v = .ref a ∧ h.IsTuple a items ∧ IntsAre items.toList ns
theorem IsTp.keeps {h h' : Heap} {v : Value} {ns : List Int} (x : IsTp h v ns) (k : ∀ b o, v = .ref b → h.get? b = some o → h'.get? b = some o) : IsTp h' v ns := by
  obtain ⟨a, items, e, ⟨o, g, r⟩, i⟩ := x
  exact ⟨a, items, e, ⟨o, k _ _ e g, r⟩, i⟩
section
variable {prog : Program} {w : World} {A : Around} {E : Value → Shared → Prop} {s : Shared}
theorem IsTp.type {M : Model} {h : Heap} {v : Value} {ns : List Int} (x : IsTp h v ns) : PySem.W.Looks M h (typeOf v) (.type "tuple") := by
  obtain ⟨a, items, rfl, ⟨o, g, c, r⟩, i⟩ := x
  have z : PySem.W.Looks M h (typeOf (.ref a)) o.cls := (PySem.W.Looks.ld g).andThen .now
  rwa [c] at z
end
end Ev
namespace Ev
open PySem PySem.Spec PyProof.Rows L2
open PySem.W (EachIs)
open Classical in
noncomputable def tpK (h : Heap) (v : Value) : List Int := if q : ∃ ns, IsTp h v ns then q.choose else []
section
end
def rowI : AV → Option (List Int)
  | .tup xs => intsOf xs
  | _ => none
section
variable {X : Cx} {fa fc : Nat → Addr} {ρ : Rho} {A : Hs} {H : Hp}
end
def nilIn : List (List Int) → Bool
  | [] => false
  | [] :: _ => true
  | _ :: l => nilIn l
/-- sorting, also of rows of which some are empty -/
def sortA0 (xs : List AV) : Option (List AV) := match optAll rowI xs with
  | some rs => (match nilIn rs && Nat.ble 2 rs.length with
    | true => some ((srtB rLe rs).map rowV)
    | false => sortA xs)
  | none => sortA xs
end Ev
namespace Ev
open PySem PyProof.Rows PySem.W
section
variable {prog : Program} {w : World} {A : Around} {E : Value → Shared → Prop} {s : Shared}
end
end Ev
namespace Ev
open PySem PySem.Spec PyProof.Rows L2
open PySem.W (EachIs AllAlike Sortable dataLe dataLt alike)
/-- what sorting makes of xs -/
def SGood0 (K : PySem.W.Frag) (H : Hp) (Q : VK) (xs : List V) : Prop := (xs.length ≤ 1 ∧ ∀ p, H p = none → Q (.ref p) (upd H p (.lst xs))) ∨
  ∃ (β : Type) (enc : β → PyData) (bs : List β) (R : V → β → Prop), EachIs R xs bs ∧ (∀ x b, R x b → Dp K H x (enc b)) ∧ AllAlike (bs.map enc) ∧ Sortable (bs.map enc) ∧ (∀ b ∈ bs, (enc b).depth ≤ 60) ∧
    ∀ out p, EachIs R out (bs.mergeSort (dataLe false enc)) → H p = none → Q (.ref p) (upd H p (.lst out))
/-- or rows of which some are empty -/
def SGood (K : PySem.W.Frag) (H : Hp) (Q : VK) (xs : List V) : Prop := SGood0 K H Q xs ∨
  ∃ (rs : List (List Int)) (R : V → List Int → Prop), EachIs R xs rs ∧ (∀ x b, R x b → ∃ c : Addr, x = .ref c ∧ SqT K H c (b.map V.int)) ∧ [] ∈ rs ∧ ∀ out p, EachIs R out (srtB rLe rs) → H p = none → Q (.ref p) (upd H p (.lst out))
section
variable {X : Cx}
end
def vSortedD (x : AV) (A : Hs) : R := match dctOf A x with
  | some (b, ks, _) => (match sortA0 (ks.map (keyV b)) with
    | some ys => .ok (.lst ys) A
    | none => .bad)
  | none => vSorted x A
def vSortedDM (x : AV) (A : Hs) : R := match dctOf A x with
  | some (b, ks, _) => (match sortA0 (ks.map (keyV b)) with
    | some ys => .ok (.ref A.length) (A ++ [.lst ys])
    | none => .bad)
  | none => vSortedM x A
section
variable {X : Cx} {G : Gl} {ρ : Rho} {H : Hp} {A : Hs}
end
section
variable {X : Cx} {x : AV} {v : V} {H : Hp} {Q : VK} {ρ : Rho} {A : Hs}
end
end Ev
namespace Ev
open PySem PySem.Calls PyProof.Rows PySem.W PySem.Spec
section
variable {prog : Program} {w : World} {A : Around} {E : Value → Shared → Prop} {s : Shared} {z TI TO T i1 i2 : Addr} {fp1 fp2 : List Addr} {n1 n2 i : Nat} {P1 P2 : Nat → Value → Prop} {St1 St2 : Nat → Heap → Prop} {f : Bool} {oT : Obj}
/-- how far a zip is, all of whose pairs are held in the list at S -/
def ZSt (St1 St2 : Nat → Heap → Prop) (z TI TO i1 i2 S : Addr) (i : Nat) (h : Heap) : Prop := IsTupOf2 h TI (.ref i1) (.ref i2) ∧ St1 i h ∧ St2 i h ∧
  ((IsZip h z TI TO .none ∧ ∃ a b, IsTupOf2 h TO a b) ∨ ∃ T f oT, IsZipHeld h z TI TO T f ∧ h.get? T = some oT ∧ T ≠ z ∧ T ≠ i1 ∧ T ≠ i2 ∧ T ≠ S)
/-- the pairs that were taken -/
structure ZG (P1 P2 : Nat → Value → Prop) (lo : Addr) (h : Heap) (as : List Addr) : Prop where
  up : as.Pairwise (· < ·)
  lo : ∀ a ∈ as, lo < a
  pr : ∀ (j : Nat) (a : Addr), as[j]? = some a → ∃ x1 x2, P1 j x1 ∧ P2 j x2 ∧ IsTupOf2 h a x1 x2
theorem ZG.lt {P1 P2 : Nat → Value → Prop} {lo : Addr} {h : Heap} {as : List Addr} (g : ZG P1 P2 lo h as) {a : Addr} (ha : a ∈ as) : a < h.objs.size := by
  obtain ⟨j, hj⟩ := List.mem_iff_getElem?.mp ha
  obtain ⟨_, _, _, _, e⟩ := g.pr j a hj
  exact Heap.lt_size e
/-- what may not change while the list at S grows -/
structure ZOff (z TI TO i1 i2 S : Addr) (fp1 fp2 : List Addr) (n : Nat) : Prop where
  lz : z < n
  lO : TO < n
  l1 : i1 < n
  l2 : i2 < n
  lS : S < n
  Sz : S ≠ z
  STI : S ≠ TI
  STO : S ≠ TO
  S1 : S ∉ fp1
  S2 : S ∉ fp2
end
end Ev
namespace Ev
open PySem PySem.Spec PyProof.Rows L2
/-- pairs laid at addresses -/
def putP : Hp → List Addr → List (V × V) → Hp
  | H, a :: as, p :: ps => putP (upd H a (.tup [p.1, p.2])) as ps
  | H, _, _ => H
section
variable {X : Cx}
/-- what list(zip(x, y)) gives -/
def rZipL (K : PySem.W.Frag) (vs : List V) (H : Hp) (Q : VK) : Prop := ∃ (a b : Addr) (xs ys : List V), vs = [.ref a, .ref b] ∧ ((SqL K H a xs ∧ SqL K H b ys) ∨ (SqT K H a xs ∧ SqT K H b ys)) ∧
  ∀ (H' : Hp) (p : Addr) (ts : List Addr), (∀ b o, H b = some o → H' b = some o) → H p = none → (∀ t ∈ ts, H t = none) → p ∉ ts → H' p = some (.lst (ts.map V.ref)) → Paired (fun (t : Addr) (q : V × V) => H' t = some (.tup [q.1, q.2])) ts (xs.zip ys) → Q (.ref p) H'
open PySem.W in
open PySem.W in
end
def zipA : List AV → List AV → List AV
  | x :: xs, y :: ys => .tup [x, y] :: zipA xs ys
  | _, _ => []
def vListZip (x y : AV) (A : Hs) : R := match tupOf x with
  | some xs => (match tupOf y with
    | some ys => guard' (allF xs && allF ys) (.ok (.lst (zipA xs ys)) A)
    | none => .bad)
  | none => (match sqlOf A x with
    | some xs => (match sqlOf A y with
      | some ys => guard' (allF xs && allF ys) (.ok (.lst (zipA xs ys)) A)
      | none => .bad)
    | none => .bad)
section
variable {G : Gl} {ρ : Rho} {A : Hs} {H H' : Hp}
end
section
variable {X : Cx} {fa fc : Nat → Addr} {a b : Expr} {ca cb : CE} {p q pos cpos : Pos}
end
end Ev
namespace Ev
open PySem PySem.Spec PyProof.Rows L2
def hitsA (A : Hs) (ls : List (List Key)) (ys : List AV) : List (List Key) → List AV → Option Bool
  | k :: ks, x :: xs => (match dLook ls ys k with
    | none => some false
    | some y => (match dat 8 A x with
      | none => none
      | some d => (match dat 8 A y with
        | none => none
        | some e => (match hitsA A ls ys ks xs with
          | none => none
          | some b => some (PyData.eqv d e && b)))))
  | _, _ => some true
def dEqA (A : Hs) (ks : List (List Key)) (xs : List AV) (ls : List (List Key)) (ys : List AV) : Option Bool := match Nat.beq ks.length ls.length with
  | false => some false
  | true => hitsA A ls ys ks xs
section
variable {G : Gl} {ρ : Rho} {A : Hs} {H : Hp} {X : Cx} {pins : List (Addr × Obj)} {σ : L2.St} {s : Shared}
end
def vEqDc (call : CallT) (mt : Nat → Option Nat) (x y : AV) (A : Hs) : R := match dctOf A x with
  | some (false, ks, xs) => (match dctOf A y with
    | some (false, ls, ys) => (match dEqA A ks xs ls ys with
      | some b => .ok (.bl b) A
      | none => .bad)
    | _ => .bad)
  | _ => vEqO call mt x y A
def vNeDc (call : CallT) (mt : Nat → Option Nat) (x y : AV) (A : Hs) : R := match dctOf A x with
  | some (false, ks, xs) => (match dctOf A y with
    | some (false, ls, ys) => (match dEqA A ks xs ls ys with
      | some b => .ok (.bl !b) A
      | none => .bad)
    | _ => .bad)
  | _ => vNeO call mt x y A
section
variable {X : Cx} {fa fc : Nat → Addr} {fds : Nat → FuncData} {PS : Nat → List Str} {call : CallT} {k : Nat} {mt : Nat → Option Nat}
end
end Ev
namespace Ev
open PySem PySem.Spec PyProof.Rows L2 Ev
def fx_arms : Nat → Option Nat
  | 5 => some 0
  | 30 => some 0
  | 48 => some 0
  | 58 => some 0
  | _ => none
def fx_changes : Nat → Option Nat
  | 11 => some 0
  | 33 => some 0
  | _ => none
def fx_looks : Nat → Option Nat
  | 6 => some 0
  | 11 => some 1
  | 33 => some 1
  | 36 => some 0
  | _ => none
def fx_many : Nat → Option Nat
  | 5 => some 1
  | 48 => some 2
  | 51 => some 2
  | _ => none
def fx_places : Nat → Option Nat
  | 5 => some 2
  | 32 => some 2
  | 44 => some 0
  | 56 => some 0
  | _ => none
def fx_row : Nat → Option Nat
  | 6 => some 1
  | 11 => some 2
  | 31 => some 0
  | 33 => some 2
  | 34 => some 1
  | 36 => some 1
  | 37 => some 0
  | 40 => some 0
  | 42 => some 2
  | 43 => some 0
  | 55 => some 0
  | _ => none
def fx_stops : Nat → Option Nat
  | 11 => some 3
  | _ => none
def fx_way : Nat → Option Nat
  | 6 => some 2
  | _ => none
def mx___contains__ : Nat → Option Nat
  | 5 => some 8
  | 48 => some 429
  | 58 => some 603
  | _ => none
def mx___eq__ : Nat → Option Nat
  | 5 => some 11
  | 6 => some 41
  | 11 => some 70
  | 31 => some 131
  | 32 => some 134
  | 33 => some 156
  | 34 => some 163
  | 35 => some 166
  | 36 => some 209
  | 37 => some 226
  | 38 => some 229
  | 39 => some 243
  | 40 => some 246
  | 42 => some 263
  | 43 => some 328
  | 44 => some 331
  | 45 => some 380
  | 46 => some 384
  | 47 => some 409
  | 49 => some 470
  | 50 => some 473
  | 52 => some 501
  | 53 => some 526
  | 54 => some 537
  | 55 => some 540
  | 56 => some 553
  | 57 => some 573
  | _ => none
def mx___getitem__ : Nat → Option Nat
  | 5 => some 10
  | _ => none
def mx___len__ : Nat → Option Nat
  | 5 => some 7
  | 48 => some 428
  | 53 => some 525
  | 58 => some 602
  | _ => none
def dx_all_parts : Nat → Option (Nat × List Int)
  | 11 => some (71, [])
  | 32 => some (135, [])
  | 42 => some (264, [])
  | 45 => some (381, [])
  | 52 => some (502, [])
  | _ => none
def dx_check_place : Nat → Option (Nat × List Int)
  | 5 => some (12, [])
  | _ => none
def dx_parent : Nat → Option (Nat × List Int)
  | 5 => some (13, [])
  | _ => none
def dx_subtree : Nat → Option (Nat × List Int)
  | 5 => some (16, [])
  | _ => none
def itx : Nat → Option (Nat × Nat)
  | 5 => some (9, 2)
  | _ => none
/-- is_number 1: 0=thing 1=low 2=high -/
def c_is_number (W : Wd) (call : CallT) : CS := sRet (cAnd (cBin (vIsiC (ciT W.cl)) (cVar 0) (cC (.ty .int))) (cAnd (cNot (cBin (vIsiC (ciT W.cl)) (cVar 0) (cC (.ty .bl)))) (cChain vLe vLe (cVar 1) (cVar 0) (cVar 2))))
/-- is_key 2: 0=thing -/
def c_is_key (W : Wd) (call : CallT) : CS := sRet (cCall call 1 [] (aCons (cVar 0) (aCons (cUn vNeg (cC (.int 1000000000))) (aCons (cC (.int 1000000000)) aNil))))
/-- check_arms 3: 0=arms -/
def c_check_arms (W : Wd) (call : CallT) : CS := sIf (cNot (cCall call 1 [] (aCons (cVar 0) (aCons (cC (.int 1)) (aCons (cC (.int 4)) aNil))))) sBad sNil
/-- check_row 4: 0=row 1=index 2=key -/
def c_check_row (W : Wd) (call : CallT) : CS := sSeq (sIf (cOr (cNot (cBin (vIsiC (ciT W.cl)) (cVar 0) (cTup (aCons (cC (.ty .lst)) (aCons (cC (.ty .tup)) aNil))))) (cBin vGt (cUn (vLenO call (tm W mx___len__)) (cVar 0)) (cC (.int 12)))) sBad sNil)
    (sForI (iEnu (cVar 0)) (gTup' 2 (gsCons (gN 1) (gsCons (gN 2) gsNil))) (sIf (cNot (cCall call 2 [] (aCons (cVar 2) aNil))) sBad sNil) 100000)
/-- Tree.__init__ 5: 0=self 1=many 2=arms -/
def c_Tree___init__ (W : Wd) (call : CallT) : CS := sSeq (sExpr (cCall call 3 [] (aCons (cVar 2) aNil)))
    (sSeq (sIf (cNot (cCall call 1 [] (aCons (cVar 1) (aCons (cC (.int 0)) (aCons (cC (.int 12)) aNil))))) sBad sNil)
    (sSeq (sFldS (tb W.cl fx_many) (cVar 0) (cVar 1))
    (sSeq (sFldS (tb W.cl fx_arms) (cVar 0) (cVar 2))
    (sFldS (tb W.cl fx_places) (cVar 0) (cRg kTupA (cC (.int 0)) (cVar 1))))))
/-- Tree.of 2006: 0=cls 1=row 2=arms -/
def c_Tree_of (W : Wd) (call : CallT) : CS := sSeq (sExpr (cCall call 3 [] (aCons (cVar 2) aNil)))
    (sSeq (sExpr (cCall call 4 [] (aCons (cVar 1) aNil)))
    (sRet (cNewV 0 5 (cNew call 5 5 false [] (aApp (aCons (cUn (vLenO call (tm W mx___len__)) (cVar 1)) aNil) (aCons (cVar 2) aNil))))))
/-- Tree.__len__ 7: 0=self -/
def c_Tree___len__ (W : Wd) (call : CallT) : CS := sRet (cUn (vLenO call (tm W mx___len__)) (cFld (tb W.cl fx_places) (cVar 0)))
/-- Tree.__contains__ 8: 0=self 1=thing -/
def c_Tree___contains__ (W : Wd) (call : CallT) : CS := sRet (cCall call 1 [] (aCons (cVar 1) (aCons (cC (.int 0)) (aCons (cBin vSub (cFld (tb W.cl fx_many) (cVar 0)) (cC (.int 1))) aNil))))
/-- Tree.__iter__ 9: 0=self -/
def c_Tree___iter__ (W : Wd) (call : CallT) : CS := sRet cBad
/-- Tree.__getitem__ 10: 0=self 1=place 2=first -/
def c_Tree___getitem__ (W : Wd) (call : CallT) : CS := sSeq (sExpr (cMeth call (tmd W dx_check_place) (cVar 0) (aCons (cVar 1) aNil)))
    (sSeq (sAsg (cBin vAdd (cBin vMul (cFld (tb W.cl fx_arms) (cVar 0)) (cVar 1)) (cC (.int 1))) (gN 2))
    (sRet (cRg kTupA (cVar 2) (cBin vMin2 (cBin vAdd (cVar 2) (cFld (tb W.cl fx_arms) (cVar 0))) (cFld (tb W.cl fx_many) (cVar 0))))))
/-- Tree.__eq__ 11: 0=self 1=other -/
def c_Tree___eq__ (W : Wd) (call : CallT) : CS := sRet (cAnd (cBin (vIsiC (ciT W.cl)) (cVar 1) (cC (.cls 5))) (cBin (vEqO call (tm W mx___eq__)) (cTup (aCons (cFld (tb W.cl fx_many) (cVar 0)) (aCons (cFld (tb W.cl fx_arms) (cVar 0)) aNil))) (cTup (aCons (cFld (tb W.cl fx_many) (cVar 1)) (aCons (cFld (tb W.cl fx_arms) (cVar 1)) aNil)))))
/-- Tree.check_place 12: 0=self 1=place -/
def c_Tree_check_place (W : Wd) (call : CallT) : CS := sIf (cBin (vNotInO call (tm W mx___contains__)) (cVar 1) (cVar 0)) sBad sNil
/-- Tree.parent 13: 0=self 1=place -/
def c_Tree_parent (W : Wd) (call : CallT) : CS := sSeq (sExpr (cMeth call (tmd W dx_check_place) (cVar 0) (aCons (cVar 1) aNil)))
    (sRet (cIf (cBin vGt (cVar 1) (cC (.int 0))) (cBin vFDiv (cBin vSub (cVar 1) (cC (.int 1))) (cFld (tb W.cl fx_arms) (cVar 0))) (cC .non)))
/-- Tree.subtree 16: 0=self 1=place 2=found 3=front 4=one 5=child -/
def c_Tree_subtree (W : Wd) (call : CallT) : CS := sSeq (sExpr (cMeth call (tmd W dx_check_place) (cVar 0) (aCons (cVar 1) aNil)))
    (sSeq (sPar [2, 3] (aCons (cLstM aNil) (aCons (cLst (aCons (cVar 1) aNil)) aNil)))
    (sSeq (sWhile (cBin (vNeO call (tm W mx___eq__)) (cVar 3) (cLst aNil)) (sSeq (sExpr (cML vExtend (cVar 2) (aCons (cVar 3) aNil)))
    (sAsg (cLC2k kLst (iOwn (tmi W itx) (cVar 3)) (gN 4) (cC (.bl true)) (iOwn (tmi W itx) (cBin (vIxO call (tm W mx___getitem__)) (cVar 0) (cVar 4))) (gN 5) (cC (.bl true)) (cVar 5) [4, 5] [5]) (gN 3))) 100000)
    (sRet (cUn vTuple (cVar 2)))))
/-- check_heap 55: 0=row 1=arms 2=found -/
def c_check_heap (W : Wd) (call : CallT) : CS := sSeq (sExpr (cCall call 3 [] (aCons (cVar 1) aNil)))
    (sSeq (sExpr (cCall call 4 [] (aCons (cVar 0) aNil)))
    (sSeq (sAsg (cFz (cCall call 28 [] (aCons (cVar 0) (aCons (cNew call 5 5 false [] (aApp (aCons (cUn (vLenO call (tm W mx___len__)) (cVar 0)) aNil) (aCons (cVar 1) aNil))) aNil)))) (gN 2))
    (sIf (cBin (vNeO call (tm W mx___eq__)) (cVar 2) (cLst aNil)) sBad sNil)))
/-- faults_in 28: 0=row 1=tree 2=place -/
def c_faults_in (W : Wd) (call : CallT) : CS := sRet (cLCk kLstM (iOwn (tmi W itx) (cVar 1)) (gN 2) (cAnd (cBin vGt (cVar 2) (cC (.int 0))) (cBin vLtT (cBin (vIxO call (tm W mx___getitem__)) (cVar 0) (cVar 2)) (cBin (vIxO call (tm W mx___getitem__)) (cVar 0) (cMeth call (tmd W dx_parent) (cVar 1) (aCons (cVar 2) aNil))))) (cVar 2) [2])
/-- falls_in 29: 0=row 1=tree 2=one 3=other -/
def c_falls_in (W : Wd) (call : CallT) : CS := sRet (cLC2k kLstM (iOwn (tmi W itx) (cVar 1)) (gN 2) (cC (.bl true)) (iOwn (tmi W itx) (cMeth call (tmd W dx_subtree) (cVar 1) (aCons (cVar 2) aNil))) (gN 3) (cBin vLtT (cBin (vIxO call (tm W mx___getitem__)) (cVar 0) (cVar 3)) (cBin (vIxO call (tm W mx___getitem__)) (cVar 0) (cVar 2))) (cTup (aCons (cVar 2) (aCons (cVar 3) aNil))) [2, 3] [3])
/-- faults 31: 0=row 1=arms -/
def c_faults (W : Wd) (call : CallT) : CS := sSeq (sExpr (cCall call 3 [] (aCons (cVar 1) aNil)))
    (sSeq (sExpr (cCall call 4 [] (aCons (cVar 0) aNil)))
    (sRet (cCall call 28 [] (aCons (cVar 0) (aCons (cNew call 5 5 false [] (aApp (aCons (cUn (vLenO call (tm W mx___len__)) (cVar 0)) aNil) (aCons (cVar 1) aNil))) aNil)))))
/-- falls 32: 0=row 1=arms -/
def c_falls (W : Wd) (call : CallT) : CS := sSeq (sExpr (cCall call 3 [] (aCons (cVar 1) aNil)))
    (sSeq (sExpr (cCall call 4 [] (aCons (cVar 0) aNil)))
    (sRet (cCall call 29 [] (aCons (cVar 0) (aCons (cNew call 5 5 false [] (aApp (aCons (cUn (vLenO call (tm W mx___len__)) (cVar 0)) aNil) (aCons (cVar 1) aNil))) aNil)))))
/-- Sift.__init__ 40: 0=self 1=row 2=way 3=looks -/
def c_Sift___init__ (W : Wd) (call : CallT) : CS := sSeq (sFldS (tb W.cl fx_row) (cVar 0) (cUn vTuple (cVar 1)))
    (sSeq (sFldS (tb W.cl fx_way) (cVar 0) (cUn vTuple (cVar 2)))
    (sFldS (tb W.cl fx_looks) (cVar 0) (cVar 3)))
/-- Sift.__eq__ 41: 0=self 1=other -/
def c_Sift___eq__ (W : Wd) (call : CallT) : CS := sRet (cAnd (cBin (vIsiC (ciT W.cl)) (cVar 1) (cC (.cls 6))) (cBin (vEqO call (tm W mx___eq__)) (cTup (aCons (cFld (tb W.cl fx_row) (cVar 0)) (aCons (cFld (tb W.cl fx_way) (cVar 0)) (aCons (cFld (tb W.cl fx_looks) (cVar 0)) aNil)))) (cTup (aCons (cFld (tb W.cl fx_row) (cVar 1)) (aCons (cFld (tb W.cl fx_way) (cVar 1)) (aCons (cFld (tb W.cl fx_looks) (cVar 1)) aNil))))))
/-- moved 42: 0=row 1=way 2=found 3=key 4=here 5=there -/
def c_moved (W : Wd) (call : CallT) : CS := sSeq (sPar [2, 3] (aCons (cUn (vListUM call (tmi W itx) (tm W mx___len__)) (cVar 0)) (aCons (cBin (vIxO call (tm W mx___getitem__)) (cVar 0) (cBin (vIxO call (tm W mx___getitem__)) (cVar 1) (cC (.int 0)))) aNil)))
    (sSeq (sForI (iZip' (cVar 1) (cTri vSl (cVar 1) (cNu (cC (.int 1))) cUnd)) (gTup' 2 (gsCons (gN 4) (gsCons (gN 5) gsNil))) (sAsg (cBin (vIxO call (tm W mx___getitem__)) (cVar 0) (cVar 5)) (gSub' (cVar 2) (cVar 4))) 100000)
    (sSeq (sAsg (cVar 3) (gSub' (cVar 2) (cBin (vIxO call (tm W mx___getitem__)) (cVar 1) (cUn vNeg (cC (.int 1))))))
    (sRet (cVar 2))))
/-- first_least 43: 0=row 1=places 2=place -/
def c_first_least (W : Wd) (call : CallT) : CS := sRet (cMinK 0 0 2 (cVar 1) (cTup (aCons (cBin vIx (cVar 0) (cVar 2)) (aCons (cVar 2) aNil))))
/-- way_up 44: 0=row 1=tree 2=place 3=key 4=way 5=looks 6=parent -/
def c_way_up (W : Wd) (call : CallT) : CS := sSeq (sPar [3, 4, 5] (aCons (cBin (vIxO call (tm W mx___getitem__)) (cVar 0) (cVar 2)) (aCons (cLstM (aCons (cVar 2) aNil)) (aCons (cC (.int 0)) aNil))))
    (sSeq (sWhile (cBin vGt (cBin (vIxO call (tm W mx___getitem__)) (cVar 4) (cUn vNeg (cC (.int 1)))) (cC (.int 0))) (sSeq (sAsg (cMeth call (tmd W dx_parent) (cVar 1) (aCons (cBin (vIxO call (tm W mx___getitem__)) (cVar 4) (cUn vNeg (cC (.int 1)))) aNil)) (gN 6))
    (sSeq (sAug 5 vAddI (cC (.int 1)))
    (sSeq (sIf (cBin vLeT (cBin (vIxO call (tm W mx___getitem__)) (cVar 0) (cVar 6)) (cVar 3)) sBrk sNil)
    (sExpr (cML vAppend (cVar 4) (aCons (cVar 6) aNil)))))) 100000)
    (sRet (cTup (aCons (cVar 4) (aCons (cVar 5) aNil)))))
/-- way_down 45: 0=row 1=tree 2=place 3=key 4=way 5=looks 6=children 7=least -/
def c_way_down (W : Wd) (call : CallT) : CS := sSeq (sPar [3, 4, 5] (aCons (cBin (vIxO call (tm W mx___getitem__)) (cVar 0) (cVar 2)) (aCons (cLstM (aCons (cVar 2) aNil)) (aCons (cC (.int 0)) aNil))))
    (sSeq (sWhile (cBin (vNeO call (tm W mx___eq__)) (cBin (vIxO call (tm W mx___getitem__)) (cVar 1) (cBin (vIxO call (tm W mx___getitem__)) (cVar 4) (cUn vNeg (cC (.int 1))))) (cTup aNil)) (sSeq (sAsg (cBin (vIxO call (tm W mx___getitem__)) (cVar 1) (cBin (vIxO call (tm W mx___getitem__)) (cVar 4) (cUn vNeg (cC (.int 1))))) (gN 6))
    (sSeq (sAug 5 vAddI (cUn (vLenO call (tm W mx___len__)) (cVar 6)))
    (sSeq (sAsg (cCall call 43 [] (aCons (cVar 0) (aCons (cVar 6) aNil))) (gN 7))
    (sSeq (sIf (cBin vLeT (cVar 3) (cBin (vIxO call (tm W mx___getitem__)) (cVar 0) (cVar 7))) sBrk sNil)
    (sExpr (cML vAppend (cVar 4) (aCons (cVar 7) aNil))))))) 100000)
    (sRet (cTup (aCons (cVar 4) (aCons (cVar 5) aNil)))))
/-- lifted 46: 0=row 1=tree 2=place 3=way 4=looks -/
def c_lifted (W : Wd) (call : CallT) : CS := sSeq (sAsg (cCall call 44 [] (aCons (cVar 0) (aCons (cVar 1) (aCons (cVar 2) aNil)))) (gTup' 2 (gsCons (gN 3) (gsCons (gN 4) gsNil))))
    (sRet (cNew call 6 40 false [] (aCons (cCall call 42 [] (aCons (cVar 0) (aCons (cVar 3) aNil))) (aCons (cVar 3) (aCons (cVar 4) aNil)))))
/-- sunk 47: 0=row 1=tree 2=place 3=way 4=looks -/
def c_sunk (W : Wd) (call : CallT) : CS := sSeq (sAsg (cCall call 45 [] (aCons (cVar 0) (aCons (cVar 1) (aCons (cVar 2) aNil)))) (gTup' 2 (gsCons (gN 3) (gsCons (gN 4) gsNil))))
    (sRet (cNew call 6 40 false [] (aCons (cCall call 42 [] (aCons (cVar 0) (aCons (cVar 3) aNil))) (aCons (cVar 3) (aCons (cVar 4) aNil)))))
/-- sift_up 48: 0=row 1=place 2=arms 3=tree -/
def c_sift_up (W : Wd) (call : CallT) : CS := sSeq (sExpr (cCall call 3 [] (aCons (cVar 2) aNil)))
    (sSeq (sExpr (cCall call 4 [] (aCons (cVar 0) aNil)))
    (sSeq (sAsg (cNew call 5 5 false [] (aApp (aCons (cUn (vLenO call (tm W mx___len__)) (cVar 0)) aNil) (aCons (cVar 2) aNil))) (gN 3))
    (sSeq (sExpr (cMeth call (tmd W dx_check_place) (cVar 3) (aCons (cVar 1) aNil)))
    (sRet (cCall call 46 [] (aCons (cVar 0) (aCons (cVar 3) (aCons (cVar 1) aNil))))))))
/-- sift_down 49: 0=row 1=place 2=arms 3=tree -/
def c_sift_down (W : Wd) (call : CallT) : CS := sSeq (sExpr (cCall call 3 [] (aCons (cVar 2) aNil)))
    (sSeq (sExpr (cCall call 4 [] (aCons (cVar 0) aNil)))
    (sSeq (sAsg (cNew call 5 5 false [] (aApp (aCons (cUn (vLenO call (tm W mx___len__)) (cVar 0)) aNil) (aCons (cVar 2) aNil))) (gN 3))
    (sSeq (sExpr (cMeth call (tmd W dx_check_place) (cVar 3) (aCons (cVar 1) aNil)))
    (sRet (cCall call 47 [] (aCons (cVar 0) (aCons (cVar 3) (aCons (cVar 1) aNil))))))))
/-- Built.__init__ 69: 0=self 1=row 2=stops 3=changes 4=looks -/
def c_Built___init__ (W : Wd) (call : CallT) : CS := sSeq (sFldS (tb W.cl fx_row) (cVar 0) (cUn vTuple (cVar 1)))
    (sSeq (sFldS (tb W.cl fx_stops) (cVar 0) (cUn vTuple (cVar 2)))
    (sSeq (sFldS (tb W.cl fx_changes) (cVar 0) (cVar 3))
    (sFldS (tb W.cl fx_looks) (cVar 0) (cVar 4))))
/-- Built.__eq__ 70: 0=self 1=other -/
def c_Built___eq__ (W : Wd) (call : CallT) : CS := sRet (cAnd (cBin (vIsiC (ciT W.cl)) (cVar 1) (cC (.cls 11))) (cBin (vEqO call (tm W mx___eq__)) (cMeth call (tmd W dx_all_parts) (cVar 0) aNil) (cMeth call (tmd W dx_all_parts) (cVar 1) aNil)))
/-- Built.all_parts 71: 0=self -/
def c_Built_all_parts (W : Wd) (call : CallT) : CS := sRet (cLstM (aCons (cFld (tb W.cl fx_row) (cVar 0)) (aCons (cFld (tb W.cl fx_stops) (cVar 0)) (aCons (cFld (tb W.cl fx_changes) (cVar 0)) (aCons (cFld (tb W.cl fx_looks) (cVar 0)) aNil)))))
/-- parents_of 72: 0=tree 1=place -/
def c_parents_of (W : Wd) (call : CallT) : CS := sRet (cUn vRevM (cLCk kLst (iOwn (tmi W itx) (cVar 0)) (gN 1) (cBin (vNeO call (tm W mx___eq__)) (cBin (vIxO call (tm W mx___getitem__)) (cVar 0) (cVar 1)) (cTup aNil)) (cVar 1) [1]))
/-- built 73: 0=row 1=tree 2=stops 3=changes 4=looks 5=place 6=found -/
def c_built (W : Wd) (call : CallT) : CS := sSeq (sPar [2, 3, 4] (aCons (cLstM aNil) (aCons (cC (.int 0)) (aCons (cC (.int 0)) aNil))))
    (sSeq (sForI (iOwn (tmi W itx) (cCall call 72 [] (aCons (cVar 1) aNil))) (gN 5) (sSeq (sAsg (cCall call 47 [] (aCons (cVar 0) (aCons (cVar 1) (aCons (cVar 5) aNil)))) (gN 6))
    (sSeq (sPar [0, 4] (aCons (cFld (tb W.cl fx_row) (cVar 6)) (aCons (cBin vAdd (cVar 4) (cFld (tb W.cl fx_looks) (cVar 6))) aNil)))
    (sSeq (sExpr (cML vAppend (cVar 2) (aCons (cTup (aCons (cVar 5) (aCons (cBin (vIxO call (tm W mx___getitem__)) (cFld (tb W.cl fx_way) (cVar 6)) (cUn vNeg (cC (.int 1)))) aNil))) aNil)))
    (sAug 3 vAddI (cBin vSub (cUn (vLenO call (tm W mx___len__)) (cFld (tb W.cl fx_way) (cVar 6))) (cC (.int 1))))))) 100000)
    (sRet (cNew call 11 69 false [] (aCons (cVar 0) (aCons (cVar 2) (aCons (cVar 3) (aCons (cVar 4) aNil)))))))
/-- without_last 57: 0=row -/
def c_without_last (W : Wd) (call : CallT) : CS := sRet (cIf (cBin vGt (cUn (vLenO call (tm W mx___len__)) (cVar 0)) (cC (.int 1))) (cLst (aCons (cBin (vIxO call (tm W mx___getitem__)) (cVar 0) (cUn vNeg (cC (.int 1)))) (aStar (cTri vSl (cVar 0) (cNu (cC (.int 1))) (cNu (cUn vNeg (cC (.int 1))))) aNil))) (cLst aNil))
/-- taken 58: 0=row 1=arms 2=rest -/
def c_taken (W : Wd) (call : CallT) : CS := sSeq (sAsg (cCall call 57 [] (aCons (cVar 0) aNil)) (gN 2))
    (sRet (cIf (cBin (vNeO call (tm W mx___eq__)) (cVar 2) (cLst aNil)) (cCall call 47 [] (aCons (cVar 2) (aCons (cNew call 5 5 false [] (aApp (aCons (cUn (vLenO call (tm W mx___len__)) (cVar 2)) aNil) (aCons (cVar 1) aNil))) (aCons (cC (.int 0)) aNil)))) (cNew call 6 40 false [] (aCons (cTup aNil) (aCons (cTup aNil) (aCons (cC (.int 0)) aNil))))))
/-- check_full 60: 0=row 1=key 2=arms -/
def c_check_full (W : Wd) (call : CallT) : CS := sSeq (sExpr (cCall call 55 [] (aCons (cVar 0) (aCons (cVar 2) aNil))))
    (sIf (cNot (cCall call 2 [] (aCons (cVar 1) aNil))) sBad sNil)
/-- push 61: 0=row 1=key 2=arms -/
def c_push (W : Wd) (call : CallT) : CS := sSeq (sExpr (cCall call 60 [] (aCons (cVar 0) (aCons (cVar 1) (aCons (cVar 2) aNil)))))
    (sSeq (sIf (cBin (vEqO call (tm W mx___eq__)) (cUn (vLenO call (tm W mx___len__)) (cVar 0)) (cC (.int 12))) sBad sNil)
    (sRet (cCall call 46 [] (aCons (cLst (aStar (cVar 0) (aCons (cVar 1) aNil))) (aCons (cNew call 5 5 false [] (aApp (aCons (cBin vAdd (cUn (vLenO call (tm W mx___len__)) (cVar 0)) (cC (.int 1))) aNil) (aCons (cVar 2) aNil))) (aCons (cUn (vLenO call (tm W mx___len__)) (cVar 0)) aNil))))))
/-- take 62: 0=row 1=arms -/
def c_take (W : Wd) (call : CallT) : CS := sSeq (sExpr (cCall call 55 [] (aCons (cVar 0) (aCons (cVar 1) aNil))))
    (sSeq (sIf (cBin (vEqO call (tm W mx___eq__)) (cUn (vLenO call (tm W mx___len__)) (cVar 0)) (cC (.int 0))) sBad sNil)
    (sRet (cTup (aCons (cBin (vIxO call (tm W mx___getitem__)) (cVar 0) (cC (.int 0))) (aCons (cCall call 58 [] (aCons (cVar 0) (aCons (cVar 1) aNil))) aNil)))))
/-- build 74: 0=row 1=arms -/
def c_build (W : Wd) (call : CallT) : CS := sSeq (sExpr (cCall call 3 [] (aCons (cVar 1) aNil)))
    (sSeq (sExpr (cCall call 4 [] (aCons (cVar 0) aNil)))
    (sRet (cCall call 73 [] (aCons (cVar 0) (aCons (cNew call 5 5 false [] (aApp (aCons (cUn (vLenO call (tm W mx___len__)) (cVar 0)) aNil) (aCons (cVar 1) aNil))) aNil)))))
/-- _law_number 19: 0=script 1=index 2=cells 3=cell 4=low 5=high 6=total 7=blend -/
def c__law_number (W : Wd) (call : CallT) : CS := sSeq (sAsg (cIf (cBin (vNeO call (tm W mx___eq__)) (cVar 0) (cLst aNil)) (cTri vSl (cVar 0) cUnd (cNu (cC (.int 63)))) (cLst (aCons (cC (.int 5)) aNil))) (gN 2))
    (sSeq (sAsg (cBin vAdd (cBin (vIxO call (tm W mx___getitem__)) (cVar 2) (cBin vMod (cUn vIntB (cVar 1)) (cUn (vLenO call (tm W mx___len__)) (cVar 2)))) (cBin vMul (cC (.int 13)) (cBin vFDiv (cVar 1) (cUn (vLenO call (tm W mx___len__)) (cVar 2))))) (gN 3))
    (sSeq (sPar [4, 5] (aCons (cBin vMod (cUn vIntB (cVar 3)) (cC (.int 1000003))) (aCons (cBin vMod (cUn vIntB (cBin vFDiv (cVar 3) (cC (.int 1000003)))) (cC (.int 999983))) aNil)))
    (sSeq (sAsg (cBin vMod (cUn vIntB (cUn vSum (cVar 2))) (cC (.int 65521))) (gN 6))
    (sSeq (sAsg (cBin vMod (cUn vIntB (cBin vAdd (cBin vAdd (cBin vMul (cBin vAdd (cVar 4) (cBin vMul (cC (.int 977)) (cVar 1))) (cC (.int 48271))) (cBin vMul (cC (.int 31)) (cVar 5))) (cVar 6))) (cC (.int 2147483647))) (gN 7))
    (sRet (cBin vAddM (cBin vMul (cBin vMod (cUn vIntB (cBin vMul (cVar 7) (cBin vAdd (cBin vAdd (cVar 7) (cBin vMul (cC (.int 31)) (cVar 1))) (cC (.int 7))))) (cC (.int 2147483629))) (cC (.int 65537))) (cVar 5)))))))
/-- _law_take 20: 0=draw 1=many -/
def c__law_take (W : Wd) (call : CallT) : CS := sSeq (sAsg (cBin vAddM (cBin (vIxO call (tm W mx___getitem__)) (cVar 0) (cC (.int 1))) (cC (.int 1))) (gSub' (cVar 0) (cC (.int 1))))
    (sRet (cBin vMod (cUn vIntB (cCall call 19 [] (aCons (cBin (vIxO call (tm W mx___getitem__)) (cVar 0) (cC (.int 0))) (aCons (cUn vIntB (cBin (vIxO call (tm W mx___getitem__)) (cVar 0) (cC (.int 1)))) aNil)))) (cVar 1)))
/-- _law_pick 34: 0=draw 1=things -/
def c__law_pick (W : Wd) (call : CallT) : CS := sRet (cBin (vIxO call (tm W mx___getitem__)) (cVar 1) (cCall call 20 [] (aCons (cVar 0) (aCons (cUn (vLenO call (tm W mx___len__)) (cVar 1)) aNil))))
/-- _law_arms 35: 0=draw -/
def c__law_arms (W : Wd) (call : CallT) : CS := sRet (cCall call 34 [] (aCons (cVar 0) (aCons (cLst (aCons (cC (.int 2)) (aCons (cC (.int 2)) (aCons (cC (.int 2)) (aCons (cC (.int 3)) (aCons (cC (.int 1)) (aCons (cC (.int 4)) aNil))))))) aNil)))
/-- _law_keys 25: 0=draw 1=most 2=span 3=turn -/
def c__law_keys (W : Wd) (call : CallT) : CS := sRet (cLCk kLstM (iRg (cC (.int 0)) (cCall call 20 [] (aCons (cVar 0) (aCons (cBin vAdd (cVar 1) (cC (.int 1))) aNil)))) (gN 3) (cC (.bl true)) (cBin vSub (cCall call 20 [] (aCons (cVar 0) (aCons (cVar 2) aNil))) (cUn vIntB (cBin vFDiv (cVar 2) (cC (.int 2))))) [3])
/-- law 99: 0=script 1=draw 2=turn 3=wide 4=keys 5=kept 6=first 7=second 8=dues 9=up 10=down 11=made 12=heap 13=least 14=out 15=due 16=row 17=way 18=stops 19=mine 20=other 21=some -/
def c_law_8 (W : Wd) (call : CallT) : CS := sSeq (sAsg (cLstM (aCons (cVar 0) (aCons (cC (.int 0)) aNil))) (gN 1))
    (sSeq (sForI (iRg (cC (.int 0)) (cC (.int 4))) (gN 2) (sSeq (sPar [3, 4] (aCons (cCall call 35 [] (aCons (cVar 1) aNil)) (aCons (cBin vAddM (cCall call 25 [] (aCons (cVar 1) (aCons (cC (.int 11)) (aCons (cC (.int 9)) aNil)))) (cLst (aCons (cCall call 20 [] (aCons (cVar 1) (aCons (cC (.int 9)) aNil))) aNil))) aNil)))
    (sSeq (sAsg (cUn (vListU call (tmi W itx) (tm W mx___len__)) (cVar 4)) (gN 5))
    (sSeq (sPar [6, 7] (aCons (cCall (lnd 1 call) 32 [] (aApp (aCons (cVar 4) aNil) (aCons (cVar 3) aNil))) (aCons (cCall (lnd 1 call) 31 [] (aApp (aCons (cVar 4) aNil) (aCons (cVar 3) aNil))) aNil)))
    (sSeq (sAsg (cLst (aCons (cUn (vListU call (tmi W itx) (tm W mx___len__)) (cVar 6)) (aCons (cUn (vListU call (tmi W itx) (tm W mx___len__)) (cVar 7)) aNil))) (gN 8))
    (sSeq (sExpr (cML vAppend (cVar 6) (aCons (cTup (aCons (cC (.str "x")) (aCons (cC (.str "y")) aNil))) aNil)))
    (sSeq (sExpr (cML vClear (cVar 7) aNil))
    (sSeq (sIf (cBin (vNeO call (tm W mx___eq__)) (cLst (aCons (cFz (cCall (lnd 1 call) 32 [] (aApp (aCons (cVar 4) aNil) (aCons (cVar 3) aNil)))) (aCons (cFz (cCall (lnd 1 call) 31 [] (aApp (aCons (cVar 4) aNil) (aCons (cVar 3) aNil)))) aNil))) (cVar 8)) (sRet (cC (.bl false))) sNil)
    (sSeq (sPar [9, 10] (aCons (cCall (lnd 1 call) 48 [] (aApp (aCons (cVar 4) (aCons (cBin vSub (cUn (vLenO call (tm W mx___len__)) (cVar 4)) (cC (.int 1))) aNil)) (aCons (cVar 3) aNil))) (aCons (cCall (lnd 1 call) 49 [] (aApp (aCons (cVar 4) (aCons (cC (.int 0)) aNil)) (aCons (cVar 3) aNil))) aNil)))
    (sSeq (sAsg (cCall (lnd 1 call) 74 [] (aApp (aCons (cVar 4) aNil) (aCons (cVar 3) aNil))) (gN 11))
    (sSeq (sAsg (cUn (vListUM call (tmi W itx) (tm W mx___len__)) (cFld (tb W.cl fx_row) (cVar 11))) (gN 12))
    (sSeq (sAsg (cCall (lnd 1 call) 62 [] (aApp (aCons (cVar 12) aNil) (aCons (cVar 3) aNil))) (gTup' 2 (gsCons (gN 13) (gsCons (gN 14) gsNil))))
    (sSeq (sIf (cOr (cBin (vNeO call (tm W mx___eq__)) (cVar 4) (cVar 5)) (cBin (vNeO call (tm W mx___eq__)) (cVar 12) (cUn (vListU call (tmi W itx) (tm W mx___len__)) (cFld (tb W.cl fx_row) (cVar 11))))) (sRet (cC (.bl false))) sNil)
    (sSeq (sAsg (cLst (aCons (cFld (tb W.cl fx_row) (cVar 9)) (aCons (cFld (tb W.cl fx_row) (cVar 10)) (aCons (cFld (tb W.cl fx_row) (cVar 11)) (aCons (cFld (tb W.cl fx_row) (cVar 14)) aNil))))) (gN 15))
    (sSeq (sPar [16, 17, 18] (aCons (cUn (vListUM call (tmi W itx) (tm W mx___len__)) (cFld (tb W.cl fx_row) (cVar 9))) (aCons (cUn (vListUM call (tmi W itx) (tm W mx___len__)) (cFld (tb W.cl fx_way) (cVar 9))) (aCons (cUn (vListUM call (tmi W itx) (tm W mx___len__)) (cFld (tb W.cl fx_stops) (cVar 11))) aNil))))
    (sSeq (sPar [19, 20] (aCons (cNew call 6 40 false [] (aCons (cVar 16) (aCons (cVar 17) (aCons (cFld (tb W.cl fx_looks) (cVar 9)) aNil)))) (aCons (cNew call 11 69 false [] (aCons (cVar 16) (aCons (cVar 18) (aCons (cFld (tb W.cl fx_changes) (cVar 11)) (aCons (cFld (tb W.cl fx_looks) (cVar 11)) aNil))))) aNil)))
    (sSeq (sForI (iOwn (tmi W itx) (cTup (aCons (cVar 4) (aCons (cVar 12) (aCons (cVar 16) (aCons (cVar 17) (aCons (cVar 18) aNil))))))) (gN 21) (sExpr (cML vClear (cVar 21) aNil)) 100000)
    (sSeq (sIf (cBin (vNeO call (tm W mx___eq__)) (cVar 19) (cVar 9)) (sRet (cC (.bl false))) sNil)
    (sSeq (sIf (cBin (vNeO call (tm W mx___eq__)) (cVar 20) (cNew call 11 69 false [] (aCons (cFld (tb W.cl fx_row) (cVar 9)) (aCons (cFld (tb W.cl fx_stops) (cVar 11)) (aCons (cFld (tb W.cl fx_changes) (cVar 11)) (aCons (cFld (tb W.cl fx_looks) (cVar 11)) aNil)))))) (sRet (cC (.bl false))) sNil)
    (sSeq (sIf (cBin (vNeO call (tm W mx___eq__)) (cLst (aCons (cFld (tb W.cl fx_row) (cVar 9)) (aCons (cFld (tb W.cl fx_row) (cVar 10)) (aCons (cFld (tb W.cl fx_row) (cVar 11)) (aCons (cFld (tb W.cl fx_row) (cVar 14)) aNil))))) (cVar 15)) (sRet (cC (.bl false))) sNil)
    (sSeq (sIf (cBin (vNeO call (tm W mx___eq__)) (cUn vSorted (cBin vAdd (cLst (aCons (cVar 13) aNil)) (cUn (vListU call (tmi W itx) (tm W mx___len__)) (cFld (tb W.cl fx_row) (cVar 14))))) (cUn vSorted (cVar 5))) (sRet (cC (.bl false))) sNil)
    (sIf (cAnd (cBin vLt (cUn (vLenO call (tm W mx___len__)) (cBin (vIxO call (tm W mx___getitem__)) (cVar 15) (cC (.int 2)))) (cC (.int 12))) (cBin (vNeO call (tm W mx___eq__)) (cUn (vLenO call (tm W mx___len__)) (cFld (tb W.cl fx_row) (cCall (lnd 1 call) 61 [] (aApp (aCons (cBin (vIxO call (tm W mx___getitem__)) (cVar 15) (cC (.int 2))) (aCons (cC (.int 5)) aNil)) (aCons (cVar 3) aNil))))) (cBin vAdd (cUn (vLenO call (tm W mx___len__)) (cVar 5)) (cC (.int 1))))) (sRet (cC (.bl false))) sNil))))))))))))))))))))) 100000)
    (sRet (cC (.bl true))))
end Ev
namespace Ev.k09
open PySem PySem.Spec PyProof.Rows L2 Ev
abbrev sc1 : Scope := defScope (top 15)
abbrev sc2 : Scope := defScope (top 16)
abbrev sc3 : Scope := defScope (top 17)
abbrev sc4 : Scope := defScope (top 18)
abbrev sc5 : Scope := defScope (mst 19 1)
abbrev sc2006 : Scope := defScope (mst 19 2)
abbrev sc7 : Scope := defScope (mst 19 3)
abbrev sc8 : Scope := defScope (mst 19 4)
abbrev sc9 : Scope := defScope (mst 19 5)
abbrev sc10 : Scope := defScope (mst 19 6)
abbrev sc11 : Scope := defScope (mst 19 7)
abbrev sc12 : Scope := defScope (mst 19 8)
abbrev sc13 : Scope := defScope (mst 19 9)
abbrev sc16 : Scope := defScope (mst 19 12)
abbrev bk16_0s : Scope := { kind := PySem.ScopeKind.function, names := [(PySem.Str.ofString ".0", PySem.NameKind.local), (PySem.Str.ofString "one", PySem.NameKind.local), (PySem.Str.ofString "child", PySem.NameKind.local), (PySem.Str.ofString "self", PySem.NameKind.free)], isGenerator := false, isCoroutine := false, more := [] : PySem.Scope }
abbrev sc55 : Scope := defScope (top 21)
abbrev sc28 : Scope := defScope (top 22)
abbrev bk28_0s : Scope := { kind := PySem.ScopeKind.function, names := [(PySem.Str.ofString ".0", PySem.NameKind.local), (PySem.Str.ofString "place", PySem.NameKind.local), (PySem.Str.ofString "row", PySem.NameKind.free), (PySem.Str.ofString "tree", PySem.NameKind.free)], isGenerator := false, isCoroutine := false, more := [] : PySem.Scope }
abbrev sc29 : Scope := defScope (top 23)
abbrev bk29_0s : Scope := { kind := PySem.ScopeKind.function, names := [(PySem.Str.ofString ".0", PySem.NameKind.local), (PySem.Str.ofString "one", PySem.NameKind.local), (PySem.Str.ofString "other", PySem.NameKind.local), (PySem.Str.ofString "row", PySem.NameKind.free), (PySem.Str.ofString "tree", PySem.NameKind.free)], isGenerator := false, isCoroutine := false, more := [] : PySem.Scope }
abbrev sc31 : Scope := defScope (top 24)
abbrev sc32 : Scope := defScope (top 25)
abbrev sc40 : Scope := defScope (mst 27 1)
abbrev sc41 : Scope := defScope (mst 27 2)
abbrev sc42 : Scope := defScope (top 28)
abbrev sc43 : Scope := defScope (top 29)
abbrev sc44 : Scope := defScope (top 30)
abbrev sc45 : Scope := defScope (top 31)
abbrev sc46 : Scope := defScope (top 32)
abbrev sc47 : Scope := defScope (top 33)
abbrev sc48 : Scope := defScope (top 34)
abbrev sc49 : Scope := defScope (top 35)
abbrev sc69 : Scope := defScope (mst 37 1)
abbrev sc70 : Scope := defScope (mst 37 2)
abbrev sc71 : Scope := defScope (mst 37 3)
abbrev sc72 : Scope := defScope (top 38)
abbrev bk72_0s : Scope := { kind := PySem.ScopeKind.function, names := [(PySem.Str.ofString ".0", PySem.NameKind.local), (PySem.Str.ofString "place", PySem.NameKind.local), (PySem.Str.ofString "tree", PySem.NameKind.free)], isGenerator := false, isCoroutine := false, more := [] : PySem.Scope }
abbrev sc73 : Scope := defScope (top 39)
abbrev sc57 : Scope := defScope (top 40)
abbrev sc58 : Scope := defScope (top 41)
abbrev sc60 : Scope := defScope (top 42)
abbrev sc61 : Scope := defScope (top 43)
abbrev sc62 : Scope := defScope (top 44)
abbrev sc74 : Scope := defScope (top 45)
abbrev sc19 : Scope := defScope (top 47)
abbrev sc20 : Scope := defScope (top 48)
abbrev sc34 : Scope := defScope (top 49)
abbrev sc35 : Scope := defScope (top 50)
abbrev sc25 : Scope := defScope (top 51)
abbrev bk25_0s : Scope := { kind := PySem.ScopeKind.function, names := [(PySem.Str.ofString ".0", PySem.NameKind.local), (PySem.Str.ofString "turn", PySem.NameKind.local), (PySem.Str.ofString "_law_take", PySem.NameKind.globalImplicit), (PySem.Str.ofString "int", PySem.NameKind.globalImplicit), (PySem.Str.ofString "draw", PySem.NameKind.free), (PySem.Str.ofString "span", PySem.NameKind.free)], isGenerator := false, isCoroutine := false, more := [] : PySem.Scope }
abbrev sc99 : Scope := defScope (top 52)
def ft : Tr := (.nd (.nd (.nd (.nd (.nd (.nd .lf 1 ⟨3, 3, .fz, c_is_number W⟩ .lf) 2 ⟨1, 1, .fz, c_is_key W⟩ .lf) 3 ⟨1, 1, .fz, c_check_arms W⟩ (.nd (.nd .lf 4 ⟨1, 3, .fz, c_check_row W⟩ .lf) 5 ⟨3, 3, .fz, c_Tree___init__ W⟩ .lf)) 7 ⟨1, 1, .fz, c_Tree___len__ W⟩ (.nd (.nd (.nd .lf 8 ⟨2, 2, .fz, c_Tree___contains__ W⟩ .lf) 9 ⟨1, 1, .fz, c_Tree___iter__ W⟩ .lf) 10 ⟨2, 3, .fz, c_Tree___getitem__ W⟩ (.nd (.nd .lf 11 ⟨2, 2, .fz, c_Tree___eq__ W⟩ .lf) 12 ⟨2, 2, .fz, c_Tree_check_place W⟩ .lf))) 13 ⟨2, 2, .fz, c_Tree_parent W⟩ (.nd (.nd (.nd (.nd .lf 16 ⟨2, 6, .fz, c_Tree_subtree W⟩ .lf) 19 ⟨2, 8, .fz, c__law_number W⟩ .lf) 20 ⟨2, 2, .fz, c__law_take W⟩ (.nd (.nd .lf 25 ⟨3, 4, .fz, c__law_keys W⟩ .lf) 28 ⟨2, 3, .ou, c_faults_in W⟩ .lf)) 29 ⟨2, 4, .ou, c_falls_in W⟩ (.nd (.nd (.nd .lf 31 ⟨2, 2, .ou, c_faults W⟩ .lf) 32 ⟨2, 2, .ou, c_falls W⟩ .lf) 34 ⟨2, 2, .fz, c__law_pick W⟩ (.nd (.nd .lf 35 ⟨1, 1, .fz, c__law_arms W⟩ .lf) 40 ⟨4, 4, .fz, c_Sift___init__ W⟩ .lf)))) 41 ⟨2, 2, .fz, c_Sift___eq__ W⟩ (.nd (.nd (.nd (.nd (.nd .lf 42 ⟨2, 6, .fz, c_moved W⟩ .lf) 43 ⟨2, 3, .fz, c_first_least W⟩ .lf) 44 ⟨3, 7, .fz, c_way_up W⟩ (.nd (.nd .lf 45 ⟨3, 8, .fz, c_way_down W⟩ .lf) 46 ⟨3, 5, .fz, c_lifted W⟩ .lf)) 47 ⟨3, 5, .fz, c_sunk W⟩ (.nd (.nd (.nd .lf 48 ⟨3, 4, .fz, c_sift_up W⟩ .lf) 49 ⟨3, 4, .fz, c_sift_down W⟩ .lf) 55 ⟨2, 3, .fz, c_check_heap W⟩ (.nd (.nd .lf 57 ⟨1, 1, .fz, c_without_last W⟩ .lf) 58 ⟨2, 3, .fz, c_taken W⟩ .lf))) 60 ⟨3, 3, .fz, c_check_full W⟩ (.nd (.nd (.nd (.nd .lf 61 ⟨3, 3, .fz, c_push W⟩ .lf) 62 ⟨2, 2, .fz, c_take W⟩ .lf) 69 ⟨5, 5, .fz, c_Built___init__ W⟩ (.nd (.nd .lf 70 ⟨2, 2, .fz, c_Built___eq__ W⟩ .lf) 71 ⟨1, 1, .fz, c_Built_all_parts W⟩ .lf)) 72 ⟨1, 2, .fz, c_parents_of W⟩ (.nd (.nd (.nd .lf 73 ⟨2, 7, .fz, c_built W⟩ .lf) 74 ⟨2, 2, .fz, c_build W⟩ .lf) 99 ⟨1, 22, .fz, c_law_8 W⟩ (.nd .lf 2006 ⟨3, 3, .fz, c_Tree_of W⟩ .lf)))))
def F (i : Nat) : Option FnC := ft.look i
def PS : Nat → List Str
  | 1 => ["thing", "low", "high"]
  | 2 => ["thing"]
  | 3 => ["arms"]
  | 4 => ["row"]
  | 5 => ["self", "many", "arms"]
  | 2006 => ["cls", "row", "arms"]
  | 7 => ["self"]
  | 8 => ["self", "thing"]
  | 9 => ["self"]
  | 10 => ["self", "place"]
  | 11 => ["self", "other"]
  | 12 => ["self", "place"]
  | 13 => ["self", "place"]
  | 16 => ["self", "place"]
  | 55 => ["row", "arms"]
  | 28 => ["row", "tree"]
  | 29 => ["row", "tree"]
  | 31 => ["row", "arms"]
  | 32 => ["row", "arms"]
  | 40 => ["self", "row", "way", "looks"]
  | 41 => ["self", "other"]
  | 42 => ["row", "way"]
  | 43 => ["row", "places"]
  | 44 => ["row", "tree", "place"]
  | 45 => ["row", "tree", "place"]
  | 46 => ["row", "tree", "place"]
  | 47 => ["row", "tree", "place"]
  | 48 => ["row", "place", "arms"]
  | 49 => ["row", "place", "arms"]
  | 69 => ["self", "row", "stops", "changes", "looks"]
  | 70 => ["self", "other"]
  | 71 => ["self"]
  | 72 => ["tree"]
  | 73 => ["row", "tree"]
  | 57 => ["row"]
  | 58 => ["row", "arms"]
  | 60 => ["row", "key", "arms"]
  | 61 => ["row", "key", "arms"]
  | 62 => ["row", "arms"]
  | 74 => ["row", "arms"]
  | 19 => ["script", "index"]
  | 20 => ["draw", "many"]
  | 34 => ["draw", "things"]
  | 35 => ["draw"]
  | 25 => ["draw", "most", "span"]
  | 99 => ["script"]
  | 14 => ["self", "place"]
  | 15 => ["self", "place"]
  | 17 => ["self", "place"]
  | 18 => ["self", "place"]
  | _ => []
structure Facts (K : PySem.W.Frag) (mg : Str → Option Value) (fds : Nat → FuncData) : Prop where
  chk : chkC W.cl cd K = true
  d1 : FunD K "is_number" "is_number" (defArgs (top 15)) (defBody (top 15)) (defScope (top 15)) [] [] (faK fnm K 1) (fds 1)
  g_is_number : mg "is_number" = some (.ref (faK fnm K 1))
  d2 : FunD K "is_key" "is_key" (defArgs (top 16)) (defBody (top 16)) (defScope (top 16)) [] [] (faK fnm K 2) (fds 2)
  g_is_key : mg "is_key" = some (.ref (faK fnm K 2))
  d3 : FunD K "check_arms" "check_arms" (defArgs (top 17)) (defBody (top 17)) (defScope (top 17)) [] [] (faK fnm K 3) (fds 3)
  g_check_arms : mg "check_arms" = some (.ref (faK fnm K 3))
  d4 : FunD K "check_row" "check_row" (defArgs (top 18)) (defBody (top 18)) (defScope (top 18)) [] [] (faK fnm K 4) (fds 4)
  g_check_row : mg "check_row" = some (.ref (faK fnm K 4))
  d5 : FunD K "__init__" "Tree.__init__" (defArgs (mst 19 1)) (defBody (mst 19 1)) (defScope (mst 19 1)) [] [("arms", .int 2)] (faK fnm K 5) (fds 5)
  d2006 : FunD K "of" "Tree.of" (defArgs (mst 19 2)) (defBody (mst 19 2)) (defScope (mst 19 2)) [] [("arms", .int 2)] (faK fnm K 2006) (fds 2006)
  d7 : FunD K "__len__" "Tree.__len__" (defArgs (mst 19 3)) (defBody (mst 19 3)) (defScope (mst 19 3)) [] [] (faK fnm K 7) (fds 7)
  d8 : FunD K "__contains__" "Tree.__contains__" (defArgs (mst 19 4)) (defBody (mst 19 4)) (defScope (mst 19 4)) [] [] (faK fnm K 8) (fds 8)
  d9 : FunD K "__iter__" "Tree.__iter__" (defArgs (mst 19 5)) (defBody (mst 19 5)) (defScope (mst 19 5)) [] [] (faK fnm K 9) (fds 9)
  d10 : FunD K "__getitem__" "Tree.__getitem__" (defArgs (mst 19 6)) (defBody (mst 19 6)) (defScope (mst 19 6)) [] [] (faK fnm K 10) (fds 10)
  d11 : FunD K "__eq__" "Tree.__eq__" (defArgs (mst 19 7)) (defBody (mst 19 7)) (defScope (mst 19 7)) [] [] (faK fnm K 11) (fds 11)
  d12 : FunD K "check_place" "Tree.check_place" (defArgs (mst 19 8)) (defBody (mst 19 8)) (defScope (mst 19 8)) [] [] (faK fnm K 12) (fds 12)
  d13 : FunD K "parent" "Tree.parent" (defArgs (mst 19 9)) (defBody (mst 19 9)) (defScope (mst 19 9)) [] [] (faK fnm K 13) (fds 13)
  d16 : FunD K "subtree" "Tree.subtree" (defArgs (mst 19 12)) (defBody (mst 19 12)) (defScope (mst 19 12)) [] [] (faK fnm K 16) (fds 16)
  d55 : FunD K "check_heap" "check_heap" (defArgs (top 21)) (defBody (top 21)) (defScope (top 21)) [] [] (faK fnm K 55) (fds 55)
  g_check_heap : mg "check_heap" = some (.ref (faK fnm K 55))
  d28 : FunD K "faults_in" "faults_in" (defArgs (top 22)) (defBody (top 22)) (defScope (top 22)) [] [] (faK fnm K 28) (fds 28)
  g_faults_in : mg "faults_in" = some (.ref (faK fnm K 28))
  d29 : FunD K "falls_in" "falls_in" (defArgs (top 23)) (defBody (top 23)) (defScope (top 23)) [] [] (faK fnm K 29) (fds 29)
  g_falls_in : mg "falls_in" = some (.ref (faK fnm K 29))
  d31 : FunD K "faults" "faults" (defArgs (top 24)) (defBody (top 24)) (defScope (top 24)) [] [("arms", .int 2)] (faK fnm K 31) (fds 31)
  g_faults : mg "faults" = some (.ref (faK fnm K 31))
  d32 : FunD K "falls" "falls" (defArgs (top 25)) (defBody (top 25)) (defScope (top 25)) [] [("arms", .int 2)] (faK fnm K 32) (fds 32)
  g_falls : mg "falls" = some (.ref (faK fnm K 32))
  d40 : FunD K "__init__" "Sift.__init__" (defArgs (mst 27 1)) (defBody (mst 27 1)) (defScope (mst 27 1)) [] [] (faK fnm K 40) (fds 40)
  d41 : FunD K "__eq__" "Sift.__eq__" (defArgs (mst 27 2)) (defBody (mst 27 2)) (defScope (mst 27 2)) [] [] (faK fnm K 41) (fds 41)
  d42 : FunD K "moved" "moved" (defArgs (top 28)) (defBody (top 28)) (defScope (top 28)) [] [] (faK fnm K 42) (fds 42)
  g_moved : mg "moved" = some (.ref (faK fnm K 42))
  d43 : FunD K "first_least" "first_least" (defArgs (top 29)) (defBody (top 29)) (defScope (top 29)) [] [] (faK fnm K 43) (fds 43)
  g_first_least : mg "first_least" = some (.ref (faK fnm K 43))
  d44 : FunD K "way_up" "way_up" (defArgs (top 30)) (defBody (top 30)) (defScope (top 30)) [] [] (faK fnm K 44) (fds 44)
  g_way_up : mg "way_up" = some (.ref (faK fnm K 44))
  d45 : FunD K "way_down" "way_down" (defArgs (top 31)) (defBody (top 31)) (defScope (top 31)) [] [] (faK fnm K 45) (fds 45)
  g_way_down : mg "way_down" = some (.ref (faK fnm K 45))
  d46 : FunD K "lifted" "lifted" (defArgs (top 32)) (defBody (top 32)) (defScope (top 32)) [] [] (faK fnm K 46) (fds 46)
  g_lifted : mg "lifted" = some (.ref (faK fnm K 46))
  d47 : FunD K "sunk" "sunk" (defArgs (top 33)) (defBody (top 33)) (defScope (top 33)) [] [] (faK fnm K 47) (fds 47)
  g_sunk : mg "sunk" = some (.ref (faK fnm K 47))
  d48 : FunD K "sift_up" "sift_up" (defArgs (top 34)) (defBody (top 34)) (defScope (top 34)) [] [("arms", .int 2)] (faK fnm K 48) (fds 48)
  g_sift_up : mg "sift_up" = some (.ref (faK fnm K 48))
  d49 : FunD K "sift_down" "sift_down" (defArgs (top 35)) (defBody (top 35)) (defScope (top 35)) [] [("arms", .int 2)] (faK fnm K 49) (fds 49)
  g_sift_down : mg "sift_down" = some (.ref (faK fnm K 49))
  d69 : FunD K "__init__" "Built.__init__" (defArgs (mst 37 1)) (defBody (mst 37 1)) (defScope (mst 37 1)) [] [] (faK fnm K 69) (fds 69)
  d70 : FunD K "__eq__" "Built.__eq__" (defArgs (mst 37 2)) (defBody (mst 37 2)) (defScope (mst 37 2)) [] [] (faK fnm K 70) (fds 70)
  d71 : FunD K "all_parts" "Built.all_parts" (defArgs (mst 37 3)) (defBody (mst 37 3)) (defScope (mst 37 3)) [] [] (faK fnm K 71) (fds 71)
  d72 : FunD K "parents_of" "parents_of" (defArgs (top 38)) (defBody (top 38)) (defScope (top 38)) [] [] (faK fnm K 72) (fds 72)
  g_parents_of : mg "parents_of" = some (.ref (faK fnm K 72))
  d73 : FunD K "built" "built" (defArgs (top 39)) (defBody (top 39)) (defScope (top 39)) [] [] (faK fnm K 73) (fds 73)
  g_built : mg "built" = some (.ref (faK fnm K 73))
  d57 : FunD K "without_last" "without_last" (defArgs (top 40)) (defBody (top 40)) (defScope (top 40)) [] [] (faK fnm K 57) (fds 57)
  g_without_last : mg "without_last" = some (.ref (faK fnm K 57))
  d58 : FunD K "taken" "taken" (defArgs (top 41)) (defBody (top 41)) (defScope (top 41)) [] [] (faK fnm K 58) (fds 58)
  g_taken : mg "taken" = some (.ref (faK fnm K 58))
  d60 : FunD K "check_full" "check_full" (defArgs (top 42)) (defBody (top 42)) (defScope (top 42)) [] [] (faK fnm K 60) (fds 60)
  g_check_full : mg "check_full" = some (.ref (faK fnm K 60))
  d61 : FunD K "push" "push" (defArgs (top 43)) (defBody (top 43)) (defScope (top 43)) [] [("arms", .int 2)] (faK fnm K 61) (fds 61)
  g_push : mg "push" = some (.ref (faK fnm K 61))
  d62 : FunD K "take" "take" (defArgs (top 44)) (defBody (top 44)) (defScope (top 44)) [] [("arms", .int 2)] (faK fnm K 62) (fds 62)
  g_take : mg "take" = some (.ref (faK fnm K 62))
  d74 : FunD K "build" "build" (defArgs (top 45)) (defBody (top 45)) (defScope (top 45)) [] [("arms", .int 2)] (faK fnm K 74) (fds 74)
  g_build : mg "build" = some (.ref (faK fnm K 74))
  d19 : FunD K "_law_number" "_law_number" (defArgs (top 47)) (defBody (top 47)) (defScope (top 47)) [] [] (faK fnm K 19) (fds 19)
  g__law_number : mg "_law_number" = some (.ref (faK fnm K 19))
  d20 : FunD K "_law_take" "_law_take" (defArgs (top 48)) (defBody (top 48)) (defScope (top 48)) [] [] (faK fnm K 20) (fds 20)
  g__law_take : mg "_law_take" = some (.ref (faK fnm K 20))
  d34 : FunD K "_law_pick" "_law_pick" (defArgs (top 49)) (defBody (top 49)) (defScope (top 49)) [] [] (faK fnm K 34) (fds 34)
  g__law_pick : mg "_law_pick" = some (.ref (faK fnm K 34))
  d35 : FunD K "_law_arms" "_law_arms" (defArgs (top 50)) (defBody (top 50)) (defScope (top 50)) [] [] (faK fnm K 35) (fds 35)
  g__law_arms : mg "_law_arms" = some (.ref (faK fnm K 35))
  d25 : FunD K "_law_keys" "_law_keys" (defArgs (top 51)) (defBody (top 51)) (defScope (top 51)) [] [] (faK fnm K 25) (fds 25)
  g__law_keys : mg "_law_keys" = some (.ref (faK fnm K 25))
  d99 : FunD K "law" "law" (defArgs (top 52)) (defBody (top 52)) (defScope (top 52)) [] [] (faK fnm K 99) (fds 99)
  g_law : mg "law" = some (.ref (faK fnm K 99))
  d14 : FunD K "way_to" "Tree.way_to" (defArgs (mst 19 10)) (defBody (mst 19 10)) (defScope (mst 19 10)) [] [] (faK fnm K 14) (fds 14)
  d15 : FunD K "depth" "Tree.depth" (defArgs (mst 19 11)) (defBody (mst 19 11)) (defScope (mst 19 11)) [] [] (faK fnm K 15) (fds 15)
  d17 : FunD K "size" "Tree.size" (defArgs (mst 19 13)) (defBody (mst 19 13)) (defScope (mst 19 13)) [] [] (faK fnm K 17) (fds 17)
  d18 : FunD K "height" "Tree.height" (defArgs (mst 19 14)) (defBody (mst 19 14)) (defScope (mst 19 14)) [] [] (faK fnm K 18) (fds 18)
  f_bool : mg "bool" = none
  f_enumerate : mg "enumerate" = none
  f_int : mg "int" = none
  f_isinstance : mg "isinstance" = none
  f_iter : mg "iter" = none
  f_len : mg "len" = none
  f_list : mg "list" = none
  f_min : mg "min" = none
  f_range : mg "range" = none
  f_sorted : mg "sorted" = none
  f_sum : mg "sum" = none
  f_tuple : mg "tuple" = none
  f_zip : mg "zip" = none
  i_MOST_ARMS : ∃ t, mg "MOST_ARMS" = some (.int 4 t)
  i_MOST_KEY : ∃ t, mg "MOST_KEY" = some (.int 1000000000 t)
  i_MOST_PLACES : ∃ t, mg "MOST_PLACES" = some (.int 12 t)
  k_Built : mg "Built" = some (.ref (fcK cd K 11))
  mk_Built : Mk K (fcK cd K 11) (faK fnm K 69)
  k_Sift : mg "Sift" = some (.ref (fcK cd K 6))
  mk_Sift : Mk K (fcK cd K 6) (faK fnm K 40)
  k_Tree : mg "Tree" = some (.ref (fcK cd K 5))
  mk_Tree : Mk K (fcK cd K 5) (faK fnm K 5)
section
variable {P : Program} {w : World} {K : PySem.W.Frag} {mg : Str → Option Value} {base : Heap} {fds : Nat → FuncData} {X : Cx} {n : Nat}
theorem fs1 : FnScope ["thing", "low", "high"] ["thing", "low", "high"] sc1 := ⟨rfl, rfl, rfl, by decide +kernel, rfl, by decide +kernel, by decide +kernel⟩
theorem bn1 (Z : Facts K mg fds) : Binds K (fds 1) ["thing", "low", "high"] [] := Z.d1.bindsN fun _ _ _ _ _ _ us hl => match us, hl with | [_, _, _], _ => rfl
theorem fs2 : FnScope ["thing"] ["thing"] sc2 := ⟨rfl, rfl, rfl, by decide +kernel, rfl, by decide +kernel, by decide +kernel⟩
theorem bn2 (Z : Facts K mg fds) : Binds K (fds 2) ["thing"] [] := Z.d2.bindsN fun _ _ _ _ _ _ us hl => match us, hl with | [_], _ => rfl
theorem fs3 : FnScope ["arms"] ["arms"] sc3 := ⟨rfl, rfl, rfl, by decide +kernel, rfl, by decide +kernel, by decide +kernel⟩
theorem bn3 (Z : Facts K mg fds) : Binds K (fds 3) ["arms"] [] := Z.d3.bindsN fun _ _ _ _ _ _ us hl => match us, hl with | [_], _ => rfl
theorem fs4 : FnScope ["row", "index", "key"] ["row"] sc4 := ⟨rfl, rfl, rfl, by decide +kernel, rfl, by decide +kernel, by decide +kernel⟩
theorem bn4 (Z : Facts K mg fds) : Binds K (fds 4) ["row"] [] := Z.d4.bindsN fun _ _ _ _ _ _ us hl => match us, hl with | [_], _ => rfl
theorem fs5 : FnScope ["self", "many", "arms"] ["self", "many", "arms"] sc5 := ⟨rfl, rfl, rfl, by decide +kernel, rfl, by decide +kernel, by decide +kernel⟩
theorem kb5 (Z : Facts K mg fds) : KBn K (fds 5) ["self", "many", "arms"] 2 ["arms"] (fun us ws => us ++ ws) (fun vs zs => vs ++ zs) := FunD.kb Z.d5 2 ["arms"] fun _ _ _ _ _ _ us ws hu hw => match us, ws, hu, hw with | [_, _], [_], _, _ => rfl
theorem fs2006 : FnScope ["cls", "row", "arms"] ["cls", "row", "arms"] sc2006 := ⟨rfl, rfl, rfl, by decide +kernel, rfl, by decide +kernel, by decide +kernel⟩
theorem fs7 : FnScope ["self"] ["self"] sc7 := ⟨rfl, rfl, rfl, by decide +kernel, rfl, by decide +kernel, by decide +kernel⟩
theorem bn7 (Z : Facts K mg fds) : Binds K (fds 7) ["self"] [] := Z.d7.bindsN fun _ _ _ _ _ _ us hl => match us, hl with | [_], _ => rfl
theorem fs8 : FnScope ["self", "thing"] ["self", "thing"] sc8 := ⟨rfl, rfl, rfl, by decide +kernel, rfl, by decide +kernel, by decide +kernel⟩
theorem bn8 (Z : Facts K mg fds) : Binds K (fds 8) ["self", "thing"] [] := Z.d8.bindsN fun _ _ _ _ _ _ us hl => match us, hl with | [_, _], _ => rfl
theorem fs9 : FnScope ["self"] ["self"] sc9 := ⟨rfl, rfl, rfl, by decide +kernel, rfl, by decide +kernel, by decide +kernel⟩
theorem bn9 (Z : Facts K mg fds) : Binds K (fds 9) ["self"] [] := Z.d9.bindsN fun _ _ _ _ _ _ us hl => match us, hl with | [_], _ => rfl
theorem fs10 : FnScope ["self", "place", "first"] ["self", "place"] sc10 := ⟨rfl, rfl, rfl, by decide +kernel, rfl, by decide +kernel, by decide +kernel⟩
theorem bn10 (Z : Facts K mg fds) : Binds K (fds 10) ["self", "place"] [] := Z.d10.bindsN fun _ _ _ _ _ _ us hl => match us, hl with | [_, _], _ => rfl
theorem fs11 : FnScope ["self", "other"] ["self", "other"] sc11 := ⟨rfl, rfl, rfl, by decide +kernel, rfl, by decide +kernel, by decide +kernel⟩
theorem bn11 (Z : Facts K mg fds) : Binds K (fds 11) ["self", "other"] [] := Z.d11.bindsN fun _ _ _ _ _ _ us hl => match us, hl with | [_, _], _ => rfl
theorem fs12 : FnScope ["self", "place"] ["self", "place"] sc12 := ⟨rfl, rfl, rfl, by decide +kernel, rfl, by decide +kernel, by decide +kernel⟩
theorem bn12 (Z : Facts K mg fds) : Binds K (fds 12) ["self", "place"] [] := Z.d12.bindsN fun _ _ _ _ _ _ us hl => match us, hl with | [_, _], _ => rfl
theorem fs13 : FnScope ["self", "place"] ["self", "place"] sc13 := ⟨rfl, rfl, rfl, by decide +kernel, rfl, by decide +kernel, by decide +kernel⟩
theorem bn13 (Z : Facts K mg fds) : Binds K (fds 13) ["self", "place"] [] := Z.d13.bindsN fun _ _ _ _ _ _ us hl => match us, hl with | [_, _], _ => rfl
theorem fs16 : FnScope ["self", "place", "found", "front", "one", "child"] ["self", "place"] sc16 := ⟨rfl, rfl, rfl, by decide +kernel, rfl, by decide +kernel, by decide +kernel⟩
theorem bk16_0 : BlkOk ["self", "place", "found", "front", "one", "child"] sc16 bk16_0s [("one", 4), ("child", 5)] := ⟨rfl, by decide +kernel, by decide +kernel, by decide +kernel, by decide +kernel⟩
theorem bn16 (Z : Facts K mg fds) : Binds K (fds 16) ["self", "place"] [] := Z.d16.bindsN fun _ _ _ _ _ _ us hl => match us, hl with | [_, _], _ => rfl
theorem fs55 : FnScope ["row", "arms", "found"] ["row", "arms"] sc55 := ⟨rfl, rfl, rfl, by decide +kernel, rfl, by decide +kernel, by decide +kernel⟩
theorem bn55 (Z : Facts K mg fds) : Binds K (fds 55) ["row", "arms"] [] := Z.d55.bindsN fun _ _ _ _ _ _ us hl => match us, hl with | [_, _], _ => rfl
theorem fs28 : FnScope ["row", "tree", "place"] ["row", "tree"] sc28 := ⟨rfl, rfl, rfl, by decide +kernel, rfl, by decide +kernel, by decide +kernel⟩
theorem bk28_0 : BlkOk ["row", "tree", "place"] sc28 bk28_0s [("place", 2)] := ⟨rfl, by decide +kernel, by decide +kernel, by decide +kernel, by decide +kernel⟩
theorem bn28 (Z : Facts K mg fds) : Binds K (fds 28) ["row", "tree"] [] := Z.d28.bindsN fun _ _ _ _ _ _ us hl => match us, hl with | [_, _], _ => rfl
theorem fs29 : FnScope ["row", "tree", "one", "other"] ["row", "tree"] sc29 := ⟨rfl, rfl, rfl, by decide +kernel, rfl, by decide +kernel, by decide +kernel⟩
theorem bk29_0 : BlkOk ["row", "tree", "one", "other"] sc29 bk29_0s [("one", 2), ("other", 3)] := ⟨rfl, by decide +kernel, by decide +kernel, by decide +kernel, by decide +kernel⟩
theorem bn29 (Z : Facts K mg fds) : Binds K (fds 29) ["row", "tree"] [] := Z.d29.bindsN fun _ _ _ _ _ _ us hl => match us, hl with | [_, _], _ => rfl
theorem fs31 : FnScope ["row", "arms"] ["row", "arms"] sc31 := ⟨rfl, rfl, rfl, by decide +kernel, rfl, by decide +kernel, by decide +kernel⟩
theorem kb31 (Z : Facts K mg fds) : KBn K (fds 31) ["row", "arms"] 1 ["arms"] (fun us ws => us ++ ws) (fun vs zs => vs ++ zs) := FunD.kb Z.d31 1 ["arms"] fun _ _ _ _ _ _ us ws hu hw => match us, ws, hu, hw with | [_], [_], _, _ => rfl
theorem fs32 : FnScope ["row", "arms"] ["row", "arms"] sc32 := ⟨rfl, rfl, rfl, by decide +kernel, rfl, by decide +kernel, by decide +kernel⟩
theorem kb32 (Z : Facts K mg fds) : KBn K (fds 32) ["row", "arms"] 1 ["arms"] (fun us ws => us ++ ws) (fun vs zs => vs ++ zs) := FunD.kb Z.d32 1 ["arms"] fun _ _ _ _ _ _ us ws hu hw => match us, ws, hu, hw with | [_], [_], _, _ => rfl
theorem fs40 : FnScope ["self", "row", "way", "looks"] ["self", "row", "way", "looks"] sc40 := ⟨rfl, rfl, rfl, by decide +kernel, rfl, by decide +kernel, by decide +kernel⟩
theorem bn40 (Z : Facts K mg fds) : Binds K (fds 40) ["self", "row", "way", "looks"] [] := Z.d40.bindsN fun _ _ _ _ _ _ us hl => match us, hl with | [_, _, _, _], _ => rfl
theorem fs41 : FnScope ["self", "other"] ["self", "other"] sc41 := ⟨rfl, rfl, rfl, by decide +kernel, rfl, by decide +kernel, by decide +kernel⟩
theorem bn41 (Z : Facts K mg fds) : Binds K (fds 41) ["self", "other"] [] := Z.d41.bindsN fun _ _ _ _ _ _ us hl => match us, hl with | [_, _], _ => rfl
theorem fs42 : FnScope ["row", "way", "found", "key", "here", "there"] ["row", "way"] sc42 := ⟨rfl, rfl, rfl, by decide +kernel, rfl, by decide +kernel, by decide +kernel⟩
theorem bn42 (Z : Facts K mg fds) : Binds K (fds 42) ["row", "way"] [] := Z.d42.bindsN fun _ _ _ _ _ _ us hl => match us, hl with | [_, _], _ => rfl
theorem fs43 : FnScope ["row", "places", "place"] ["row", "places"] sc43 := ⟨rfl, rfl, rfl, by decide +kernel, rfl, by decide +kernel, by decide +kernel⟩
theorem bn43 (Z : Facts K mg fds) : Binds K (fds 43) ["row", "places"] [] := Z.d43.bindsN fun _ _ _ _ _ _ us hl => match us, hl with | [_, _], _ => rfl
theorem fs44 : FnScope ["row", "tree", "place", "key", "way", "looks", "parent"] ["row", "tree", "place"] sc44 := ⟨rfl, rfl, rfl, by decide +kernel, rfl, by decide +kernel, by decide +kernel⟩
theorem bn44 (Z : Facts K mg fds) : Binds K (fds 44) ["row", "tree", "place"] [] := Z.d44.bindsN fun _ _ _ _ _ _ us hl => match us, hl with | [_, _, _], _ => rfl
theorem fs45 : FnScope ["row", "tree", "place", "key", "way", "looks", "children", "least"] ["row", "tree", "place"] sc45 := ⟨rfl, rfl, rfl, by decide +kernel, rfl, by decide +kernel, by decide +kernel⟩
theorem bn45 (Z : Facts K mg fds) : Binds K (fds 45) ["row", "tree", "place"] [] := Z.d45.bindsN fun _ _ _ _ _ _ us hl => match us, hl with | [_, _, _], _ => rfl
theorem fs46 : FnScope ["row", "tree", "place", "way", "looks"] ["row", "tree", "place"] sc46 := ⟨rfl, rfl, rfl, by decide +kernel, rfl, by decide +kernel, by decide +kernel⟩
theorem bn46 (Z : Facts K mg fds) : Binds K (fds 46) ["row", "tree", "place"] [] := Z.d46.bindsN fun _ _ _ _ _ _ us hl => match us, hl with | [_, _, _], _ => rfl
theorem fs47 : FnScope ["row", "tree", "place", "way", "looks"] ["row", "tree", "place"] sc47 := ⟨rfl, rfl, rfl, by decide +kernel, rfl, by decide +kernel, by decide +kernel⟩
theorem bn47 (Z : Facts K mg fds) : Binds K (fds 47) ["row", "tree", "place"] [] := Z.d47.bindsN fun _ _ _ _ _ _ us hl => match us, hl with | [_, _, _], _ => rfl
theorem fs48 : FnScope ["row", "place", "arms", "tree"] ["row", "place", "arms"] sc48 := ⟨rfl, rfl, rfl, by decide +kernel, rfl, by decide +kernel, by decide +kernel⟩
theorem kb48 (Z : Facts K mg fds) : KBn K (fds 48) ["row", "place", "arms"] 2 ["arms"] (fun us ws => us ++ ws) (fun vs zs => vs ++ zs) := FunD.kb Z.d48 2 ["arms"] fun _ _ _ _ _ _ us ws hu hw => match us, ws, hu, hw with | [_, _], [_], _, _ => rfl
theorem fs49 : FnScope ["row", "place", "arms", "tree"] ["row", "place", "arms"] sc49 := ⟨rfl, rfl, rfl, by decide +kernel, rfl, by decide +kernel, by decide +kernel⟩
theorem kb49 (Z : Facts K mg fds) : KBn K (fds 49) ["row", "place", "arms"] 2 ["arms"] (fun us ws => us ++ ws) (fun vs zs => vs ++ zs) := FunD.kb Z.d49 2 ["arms"] fun _ _ _ _ _ _ us ws hu hw => match us, ws, hu, hw with | [_, _], [_], _, _ => rfl
theorem fs69 : FnScope ["self", "row", "stops", "changes", "looks"] ["self", "row", "stops", "changes", "looks"] sc69 := ⟨rfl, rfl, rfl, by decide +kernel, rfl, by decide +kernel, by decide +kernel⟩
theorem bn69 (Z : Facts K mg fds) : Binds K (fds 69) ["self", "row", "stops", "changes", "looks"] [] := Z.d69.bindsN fun _ _ _ _ _ _ us hl => match us, hl with | [_, _, _, _, _], _ => rfl
theorem fs70 : FnScope ["self", "other"] ["self", "other"] sc70 := ⟨rfl, rfl, rfl, by decide +kernel, rfl, by decide +kernel, by decide +kernel⟩
theorem bn70 (Z : Facts K mg fds) : Binds K (fds 70) ["self", "other"] [] := Z.d70.bindsN fun _ _ _ _ _ _ us hl => match us, hl with | [_, _], _ => rfl
theorem fs71 : FnScope ["self"] ["self"] sc71 := ⟨rfl, rfl, rfl, by decide +kernel, rfl, by decide +kernel, by decide +kernel⟩
theorem bn71 (Z : Facts K mg fds) : Binds K (fds 71) ["self"] [] := Z.d71.bindsN fun _ _ _ _ _ _ us hl => match us, hl with | [_], _ => rfl
theorem fs72 : FnScope ["tree", "place"] ["tree"] sc72 := ⟨rfl, rfl, rfl, by decide +kernel, rfl, by decide +kernel, by decide +kernel⟩
theorem bk72_0 : BlkOk ["tree", "place"] sc72 bk72_0s [("place", 1)] := ⟨rfl, by decide +kernel, by decide +kernel, by decide +kernel, by decide +kernel⟩
theorem bn72 (Z : Facts K mg fds) : Binds K (fds 72) ["tree"] [] := Z.d72.bindsN fun _ _ _ _ _ _ us hl => match us, hl with | [_], _ => rfl
theorem fs73 : FnScope ["row", "tree", "stops", "changes", "looks", "place", "found"] ["row", "tree"] sc73 := ⟨rfl, rfl, rfl, by decide +kernel, rfl, by decide +kernel, by decide +kernel⟩
theorem bn73 (Z : Facts K mg fds) : Binds K (fds 73) ["row", "tree"] [] := Z.d73.bindsN fun _ _ _ _ _ _ us hl => match us, hl with | [_, _], _ => rfl
theorem fs57 : FnScope ["row"] ["row"] sc57 := ⟨rfl, rfl, rfl, by decide +kernel, rfl, by decide +kernel, by decide +kernel⟩
theorem bn57 (Z : Facts K mg fds) : Binds K (fds 57) ["row"] [] := Z.d57.bindsN fun _ _ _ _ _ _ us hl => match us, hl with | [_], _ => rfl
theorem fs58 : FnScope ["row", "arms", "rest"] ["row", "arms"] sc58 := ⟨rfl, rfl, rfl, by decide +kernel, rfl, by decide +kernel, by decide +kernel⟩
theorem bn58 (Z : Facts K mg fds) : Binds K (fds 58) ["row", "arms"] [] := Z.d58.bindsN fun _ _ _ _ _ _ us hl => match us, hl with | [_, _], _ => rfl
theorem fs60 : FnScope ["row", "key", "arms"] ["row", "key", "arms"] sc60 := ⟨rfl, rfl, rfl, by decide +kernel, rfl, by decide +kernel, by decide +kernel⟩
theorem bn60 (Z : Facts K mg fds) : Binds K (fds 60) ["row", "key", "arms"] [] := Z.d60.bindsN fun _ _ _ _ _ _ us hl => match us, hl with | [_, _, _], _ => rfl
theorem fs61 : FnScope ["row", "key", "arms"] ["row", "key", "arms"] sc61 := ⟨rfl, rfl, rfl, by decide +kernel, rfl, by decide +kernel, by decide +kernel⟩
theorem kb61 (Z : Facts K mg fds) : KBn K (fds 61) ["row", "key", "arms"] 2 ["arms"] (fun us ws => us ++ ws) (fun vs zs => vs ++ zs) := FunD.kb Z.d61 2 ["arms"] fun _ _ _ _ _ _ us ws hu hw => match us, ws, hu, hw with | [_, _], [_], _, _ => rfl
theorem fs62 : FnScope ["row", "arms"] ["row", "arms"] sc62 := ⟨rfl, rfl, rfl, by decide +kernel, rfl, by decide +kernel, by decide +kernel⟩
theorem kb62 (Z : Facts K mg fds) : KBn K (fds 62) ["row", "arms"] 1 ["arms"] (fun us ws => us ++ ws) (fun vs zs => vs ++ zs) := FunD.kb Z.d62 1 ["arms"] fun _ _ _ _ _ _ us ws hu hw => match us, ws, hu, hw with | [_], [_], _, _ => rfl
theorem fs74 : FnScope ["row", "arms"] ["row", "arms"] sc74 := ⟨rfl, rfl, rfl, by decide +kernel, rfl, by decide +kernel, by decide +kernel⟩
theorem kb74 (Z : Facts K mg fds) : KBn K (fds 74) ["row", "arms"] 1 ["arms"] (fun us ws => us ++ ws) (fun vs zs => vs ++ zs) := FunD.kb Z.d74 1 ["arms"] fun _ _ _ _ _ _ us ws hu hw => match us, ws, hu, hw with | [_], [_], _, _ => rfl
theorem fs19 : FnScope ["script", "index", "cells", "cell", "low", "high", "total", "blend"] ["script", "index"] sc19 := ⟨rfl, rfl, rfl, by decide +kernel, rfl, by decide +kernel, by decide +kernel⟩
theorem bn19 (Z : Facts K mg fds) : Binds K (fds 19) ["script", "index"] [] := Z.d19.bindsN fun _ _ _ _ _ _ us hl => match us, hl with | [_, _], _ => rfl
theorem fs20 : FnScope ["draw", "many"] ["draw", "many"] sc20 := ⟨rfl, rfl, rfl, by decide +kernel, rfl, by decide +kernel, by decide +kernel⟩
theorem bn20 (Z : Facts K mg fds) : Binds K (fds 20) ["draw", "many"] [] := Z.d20.bindsN fun _ _ _ _ _ _ us hl => match us, hl with | [_, _], _ => rfl
theorem fs34 : FnScope ["draw", "things"] ["draw", "things"] sc34 := ⟨rfl, rfl, rfl, by decide +kernel, rfl, by decide +kernel, by decide +kernel⟩
theorem bn34 (Z : Facts K mg fds) : Binds K (fds 34) ["draw", "things"] [] := Z.d34.bindsN fun _ _ _ _ _ _ us hl => match us, hl with | [_, _], _ => rfl
theorem fs35 : FnScope ["draw"] ["draw"] sc35 := ⟨rfl, rfl, rfl, by decide +kernel, rfl, by decide +kernel, by decide +kernel⟩
theorem bn35 (Z : Facts K mg fds) : Binds K (fds 35) ["draw"] [] := Z.d35.bindsN fun _ _ _ _ _ _ us hl => match us, hl with | [_], _ => rfl
theorem fs25 : FnScope ["draw", "most", "span", "turn"] ["draw", "most", "span"] sc25 := ⟨rfl, rfl, rfl, by decide +kernel, rfl, by decide +kernel, by decide +kernel⟩
theorem bk25_0 : BlkOk ["draw", "most", "span", "turn"] sc25 bk25_0s [("turn", 3)] := ⟨rfl, by decide +kernel, by decide +kernel, by decide +kernel, by decide +kernel⟩
theorem bn25 (Z : Facts K mg fds) : Binds K (fds 25) ["draw", "most", "span"] [] := Z.d25.bindsN fun _ _ _ _ _ _ us hl => match us, hl with | [_, _, _], _ => rfl
theorem fs99 : FnScope ["script", "draw", "turn", "wide", "keys", "kept", "first", "second", "dues", "up", "down", "made", "heap", "least", "out", "due", "row", "way", "stops", "mine", "other", "some"] ["script"] sc99 := ⟨rfl, rfl, rfl, by decide +kernel, rfl, by decide +kernel, by decide +kernel⟩
theorem S_arms (Z : Facts K mg fds) : SlotsAt K (fcK cd K) "arms" (tb W.cl fx_arms) := slotsAt_of Z.chk (by decide +kernel)
theorem S_changes (Z : Facts K mg fds) : SlotsAt K (fcK cd K) "changes" (tb W.cl fx_changes) := slotsAt_of Z.chk (by decide +kernel)
theorem S_looks (Z : Facts K mg fds) : SlotsAt K (fcK cd K) "looks" (tb W.cl fx_looks) := slotsAt_of Z.chk (by decide +kernel)
theorem S_many (Z : Facts K mg fds) : SlotsAt K (fcK cd K) "many" (tb W.cl fx_many) := slotsAt_of Z.chk (by decide +kernel)
theorem S_places (Z : Facts K mg fds) : SlotsAt K (fcK cd K) "places" (tb W.cl fx_places) := slotsAt_of Z.chk (by decide +kernel)
theorem S_row (Z : Facts K mg fds) : SlotsAt K (fcK cd K) "row" (tb W.cl fx_row) := slotsAt_of Z.chk (by decide +kernel)
theorem S_stops (Z : Facts K mg fds) : SlotsAt K (fcK cd K) "stops" (tb W.cl fx_stops) := slotsAt_of Z.chk (by decide +kernel)
theorem S_way (Z : Facts K mg fds) : SlotsAt K (fcK cd K) "way" (tb W.cl fx_way) := slotsAt_of Z.chk (by decide +kernel)
theorem T___len__ (Z : Facts X.K X.mg fds) (ih : ∀ i, FnOk X.prog X.w X.K X.mg X.base CX0 (6 * n) (faK fnm X.K i) (fds i) (PS i) (spF ⟨X.K, faK fnm X.K, fcK cd X.K⟩ (callF F n) i)) : ∀ c f, tm W mx___len__ c = some f → MtOk X (faK fnm X.K) (fcK cd X.K) fds PS (callF F n) (6 * n) "__len__" c f [] := by
  intro c f h
  have hc := tm_mem h
  simp only [W, List.mem_cons, List.not_mem_nil, or_false] at hc
  rcases hc with rfl | rfl | rfl
  · cases (show some 7 = some f from h); exact mtOk_of Z.chk (by decide) (by decide) rfl (ih 7) ⟨[], bn7 Z, .nil⟩
  · exact absurd (show (none : Option Nat) = some f from h) (by simp)
  · exact absurd (show (none : Option Nat) = some f from h) (by simp)
theorem T___eq__ (Z : Facts X.K X.mg fds) (ih : ∀ i, FnOk X.prog X.w X.K X.mg X.base CX0 (6 * n) (faK fnm X.K i) (fds i) (PS i) (spF ⟨X.K, faK fnm X.K, fcK cd X.K⟩ (callF F n) i)) : ∀ c f, tm W mx___eq__ c = some f → EqOk X (faK fnm X.K) (fcK cd X.K) fds PS (callF F n) (6 * n) (tm W mx___eq__) c f := by
  intro c f h
  have hc := tm_mem h
  simp only [W, List.mem_cons, List.not_mem_nil, or_false] at hc
  rcases hc with rfl | rfl | rfl
  · cases (show some 11 = some f from h); exact eqOk_of Z.chk (by decide) (mtOk_of Z.chk (by decide) (by decide) rfl (ih 11) ⟨[], bn11 Z, .nil⟩) (fun _ _ z => tm_mem z)
  · cases (show some 41 = some f from h); exact eqOk_of Z.chk (by decide) (mtOk_of Z.chk (by decide) (by decide) rfl (ih 41) ⟨[], bn41 Z, .nil⟩) (fun _ _ z => tm_mem z)
  · cases (show some 70 = some f from h); exact eqOk_of Z.chk (by decide) (mtOk_of Z.chk (by decide) (by decide) rfl (ih 70) ⟨[], bn70 Z, .nil⟩) (fun _ _ z => tm_mem z)
theorem T___contains__ (Z : Facts X.K X.mg fds) (ih : ∀ i, FnOk X.prog X.w X.K X.mg X.base CX0 (6 * n) (faK fnm X.K i) (fds i) (PS i) (spF ⟨X.K, faK fnm X.K, fcK cd X.K⟩ (callF F n) i)) : ∀ c f, tm W mx___contains__ c = some f → MtOk X (faK fnm X.K) (fcK cd X.K) fds PS (callF F n) (6 * n) "__contains__" c f [] := by
  intro c f h
  have hc := tm_mem h
  simp only [W, List.mem_cons, List.not_mem_nil, or_false] at hc
  rcases hc with rfl | rfl | rfl
  · cases (show some 8 = some f from h); exact mtOk_of Z.chk (by decide) (by decide) rfl (ih 8) ⟨[], bn8 Z, .nil⟩
  · exact absurd (show (none : Option Nat) = some f from h) (by simp)
  · exact absurd (show (none : Option Nat) = some f from h) (by simp)
theorem T___getitem__ (Z : Facts X.K X.mg fds) (ih : ∀ i, FnOk X.prog X.w X.K X.mg X.base CX0 (6 * n) (faK fnm X.K i) (fds i) (PS i) (spF ⟨X.K, faK fnm X.K, fcK cd X.K⟩ (callF F n) i)) : ∀ c f, tm W mx___getitem__ c = some f → MtOk X (faK fnm X.K) (fcK cd X.K) fds PS (callF F n) (6 * n) "__getitem__" c f [] := by
  intro c f h
  have hc := tm_mem h
  simp only [W, List.mem_cons, List.not_mem_nil, or_false] at hc
  rcases hc with rfl | rfl | rfl
  · cases (show some 10 = some f from h); exact mtOk_of Z.chk (by decide) (by decide) rfl (ih 10) ⟨[], bn10 Z, .nil⟩
  · exact absurd (show (none : Option Nat) = some f from h) (by simp)
  · exact absurd (show (none : Option Nat) = some f from h) (by simp)
theorem M_all_parts (Z : Facts X.K X.mg fds) (ih : ∀ i, FnOk X.prog X.w X.K X.mg X.base CX0 (6 * n) (faK fnm X.K i) (fds i) (PS i) (spF ⟨X.K, faK fnm X.K, fcK cd X.K⟩ (callF F n) i)) : ∀ c f di, tmd W dx_all_parts c = some (f, di) → MtOk X (faK fnm X.K) (fcK cd X.K) fds PS (callF F n) (6 * n) "all_parts" c f di := by
  intro c f di h
  have hc := tmd_mem h
  simp only [W, List.mem_cons, List.not_mem_nil, or_false] at hc
  rcases hc with rfl | rfl | rfl
  · exact absurd (show (none : Option (Nat × List Int)) = some (f, di) from h) (by simp)
  · exact absurd (show (none : Option (Nat × List Int)) = some (f, di) from h) (by simp)
  · cases (show some (71, []) = some (f, di) from h); exact mtOk_of Z.chk (by decide) (by decide) rfl (ih 71) ⟨[], bn71 Z, .nil⟩
theorem M_check_place (Z : Facts X.K X.mg fds) (ih : ∀ i, FnOk X.prog X.w X.K X.mg X.base CX0 (6 * n) (faK fnm X.K i) (fds i) (PS i) (spF ⟨X.K, faK fnm X.K, fcK cd X.K⟩ (callF F n) i)) : ∀ c f di, tmd W dx_check_place c = some (f, di) → MtOk X (faK fnm X.K) (fcK cd X.K) fds PS (callF F n) (6 * n) "check_place" c f di := by
  intro c f di h
  have hc := tmd_mem h
  simp only [W, List.mem_cons, List.not_mem_nil, or_false] at hc
  rcases hc with rfl | rfl | rfl
  · cases (show some (12, []) = some (f, di) from h); exact mtOk_of Z.chk (by decide) (by decide) rfl (ih 12) ⟨[], bn12 Z, .nil⟩
  · exact absurd (show (none : Option (Nat × List Int)) = some (f, di) from h) (by simp)
  · exact absurd (show (none : Option (Nat × List Int)) = some (f, di) from h) (by simp)
theorem M_parent (Z : Facts X.K X.mg fds) (ih : ∀ i, FnOk X.prog X.w X.K X.mg X.base CX0 (6 * n) (faK fnm X.K i) (fds i) (PS i) (spF ⟨X.K, faK fnm X.K, fcK cd X.K⟩ (callF F n) i)) : ∀ c f di, tmd W dx_parent c = some (f, di) → MtOk X (faK fnm X.K) (fcK cd X.K) fds PS (callF F n) (6 * n) "parent" c f di := by
  intro c f di h
  have hc := tmd_mem h
  simp only [W, List.mem_cons, List.not_mem_nil, or_false] at hc
  rcases hc with rfl | rfl | rfl
  · cases (show some (13, []) = some (f, di) from h); exact mtOk_of Z.chk (by decide) (by decide) rfl (ih 13) ⟨[], bn13 Z, .nil⟩
  · exact absurd (show (none : Option (Nat × List Int)) = some (f, di) from h) (by simp)
  · exact absurd (show (none : Option (Nat × List Int)) = some (f, di) from h) (by simp)
theorem M_subtree (Z : Facts X.K X.mg fds) (ih : ∀ i, FnOk X.prog X.w X.K X.mg X.base CX0 (6 * n) (faK fnm X.K i) (fds i) (PS i) (spF ⟨X.K, faK fnm X.K, fcK cd X.K⟩ (callF F n) i)) : ∀ c f di, tmd W dx_subtree c = some (f, di) → MtOk X (faK fnm X.K) (fcK cd X.K) fds PS (callF F n) (6 * n) "subtree" c f di := by
  intro c f di h
  have hc := tmd_mem h
  simp only [W, List.mem_cons, List.not_mem_nil, or_false] at hc
  rcases hc with rfl | rfl | rfl
  · cases (show some (16, []) = some (f, di) from h); exact mtOk_of Z.chk (by decide) (by decide) rfl (ih 16) ⟨[], bn16 Z, .nil⟩
  · exact absurd (show (none : Option (Nat × List Int)) = some (f, di) from h) (by simp)
  · exact absurd (show (none : Option (Nat × List Int)) = some (f, di) from h) (by simp)
theorem T___iter__ (Z : Facts X.K X.mg fds) : ∀ c i, tmi W itx c = some i → ItrC X.K X.mg (fcK cd X.K c) c i := by
  intro c i h
  have hc := tmi_mem h
  simp only [W, List.mem_cons, List.not_mem_nil, or_false] at hc
  rcases hc with rfl | rfl | rfl
  · cases (show some 2 = some i from h)
    have ok := chkC_at Z.chk (c := 5) (by decide)
    obtain ⟨p, s1⟩ := ClsD.slot ok (i := 2) (f := "places") rfl
    exact ⟨ClsD.scls ok, ⟨_, _, _, _, _, _, _, _, _, _, _, _, p, (ClsD.meth ok (m := "__iter__") (by decide)).1, Z.d9, fs9, rfl, rfl, bn9 Z, s1⟩, Z.f_iter, rfl⟩
  · exact absurd (show (none : Option Nat) = some i from h) (by simp)
  · exact absurd (show (none : Option Nat) = some i from h) (by simp)
theorem st1 (Z : Facts K mg fds) (T0 : LamX.TabB base mg (He.codeOf K (fnm 1000)) (faK fnm K 1000)) (ih : ∀ i, FnOk P w K mg base CX0 (6 * n) (faK fnm K i) (fds i) (PS i) (spF ⟨K, faK fnm K, fcK cd K⟩ (callF F n) i)) : FnOk P w K mg base CX0 (6 * (n + 1)) (faK fnm K 1) (fds 1) (PS 1) (spF ⟨K, faK fnm K, fcK cd K⟩ (callF F (n + 1)) 1) := by
  have nd := fs1.nd
  refine fn_ok (G := ⟨K, faK fnm K, fcK cd K⟩) (f := 1) (fc := ⟨3, 3, .fz, c_is_number W⟩) rfl Z.d1 fs1 rfl rfl (fun cdv A outer s H E hr => ?_)
  have r0 := hr.mono (j := 6 * n) (by omega)
  have r1 := hr.mono (j := 6 * n + 1) (by omega)
  have r3 := hr.mono (j := 6 * n + 3) (by omega)
  have r3a := hr.mono (j := 3) (by omega)
  have r5 := hr.mono (j := 5) (by omega)
  have hu0 := hr.units
  have hu := hr.units65
  refine code_of (pssc_one (psc_ret (pec_and (pec_b2 (cv_isiC (isiC_of Z.chk)) bt_isinstance Z.f_isinstance (pec_var (i := 0) rfl (.inl rfl)) (pec_ty (t := .int) rfl Z.f_int bt_int)) (pec_and (pec_not (pec_b2 (cv_isiC (isiC_of Z.chk)) bt_isinstance Z.f_isinstance (pec_var (i := 0) rfl (.inl rfl)) (pec_ty (t := .bl) rfl Z.f_bool bt_bool))) (pec_one (pec_chain ov_le ov_le (pec_var (i := 1) rfl (.inl rfl)) (pec_var (i := 0) rfl (.inl rfl)) (pec_var (i := 2) rfl (.inl rfl)))))))) ?_
  rfl
theorem st2 (Z : Facts K mg fds) (T0 : LamX.TabB base mg (He.codeOf K (fnm 1000)) (faK fnm K 1000)) (ih : ∀ i, FnOk P w K mg base CX0 (6 * n) (faK fnm K i) (fds i) (PS i) (spF ⟨K, faK fnm K, fcK cd K⟩ (callF F n) i)) : FnOk P w K mg base CX0 (6 * (n + 1)) (faK fnm K 2) (fds 2) (PS 2) (spF ⟨K, faK fnm K, fcK cd K⟩ (callF F (n + 1)) 2) := by
  obtain ⟨_, i_MOST_KEY⟩ := Z.i_MOST_KEY
  have b1 := bn1 Z
  have hd1 : Vals (dV []) [] := .nil
  have nd := fs2.nd
  refine fn_ok (G := ⟨K, faK fnm K, fcK cd K⟩) (f := 2) (fc := ⟨1, 1, .fz, c_is_key W⟩) rfl Z.d2 fs2 rfl rfl (fun cdv A outer s H E hr => ?_)
  have r0 := hr.mono (j := 6 * n) (by omega)
  have r1 := hr.mono (j := 6 * n + 1) (by omega)
  have r3 := hr.mono (j := 6 * n + 3) (by omega)
  have r3a := hr.mono (j := 3) (by omega)
  have r5 := hr.mono (j := 5) (by omega)
  have hu0 := hr.units
  have hu := hr.units65
  refine code_of (pssc_one (psc_ret (pec_call (f := 1) (di := []) (ih 1) r0 rfl Z.g_is_number Z.d1.kp b1 hd1 (pac_cons (pec_var (i := 0) rfl (.inl rfl)) (pac_cons (pec_un ov_neg (pec_gint rfl i_MOST_KEY)) (pac_cons (pec_gint rfl i_MOST_KEY) pac_nil)))))) ?_
  rfl
theorem st3 (Z : Facts K mg fds) (T0 : LamX.TabB base mg (He.codeOf K (fnm 1000)) (faK fnm K 1000)) (ih : ∀ i, FnOk P w K mg base CX0 (6 * n) (faK fnm K i) (fds i) (PS i) (spF ⟨K, faK fnm K, fcK cd K⟩ (callF F n) i)) : FnOk P w K mg base CX0 (6 * (n + 1)) (faK fnm K 3) (fds 3) (PS 3) (spF ⟨K, faK fnm K, fcK cd K⟩ (callF F (n + 1)) 3) := by
  obtain ⟨_, i_MOST_ARMS⟩ := Z.i_MOST_ARMS
  have b1 := bn1 Z
  have hd1 : Vals (dV []) [] := .nil
  have nd := fs3.nd
  refine fn_ok (G := ⟨K, faK fnm K, fcK cd K⟩) (f := 3) (fc := ⟨1, 1, .fz, c_check_arms W⟩) rfl Z.d3 fs3 rfl rfl (fun cdv A outer s H E hr => ?_)
  have r0 := hr.mono (j := 6 * n) (by omega)
  have r1 := hr.mono (j := 6 * n + 1) (by omega)
  have r3 := hr.mono (j := 6 * n + 3) (by omega)
  have r3a := hr.mono (j := 3) (by omega)
  have r5 := hr.mono (j := 5) (by omega)
  have hu0 := hr.units
  have hu := hr.units65
  refine code_of (pssc_one (psc_if (ptc_not (ptc_val (pec_call (f := 1) (di := []) (ih 1) r0 rfl Z.g_is_number Z.d1.kp b1 hd1 (pac_cons (pec_var (i := 0) rfl (.inl rfl)) (pac_cons pec_int (pac_cons (pec_gint rfl i_MOST_ARMS) pac_nil)))))) (pssc_one psc_never) pssc_nil)) ?_
  rfl
theorem st4 (Z : Facts K mg fds) (T0 : LamX.TabB base mg (He.codeOf K (fnm 1000)) (faK fnm K 1000)) (ih : ∀ i, FnOk P w K mg base CX0 (6 * n) (faK fnm K i) (fds i) (PS i) (spF ⟨K, faK fnm K, fcK cd K⟩ (callF F n) i)) : FnOk P w K mg base CX0 (6 * (n + 1)) (faK fnm K 4) (fds 4) (PS 4) (spF ⟨K, faK fnm K, fcK cd K⟩ (callF F (n + 1)) 4) := by
  obtain ⟨_, i_MOST_PLACES⟩ := Z.i_MOST_PLACES
  have b2 := bn2 Z
  have hd2 : Vals (dV []) [] := .nil
  have nd := fs4.nd
  refine fn_ok (G := ⟨K, faK fnm K, fcK cd K⟩) (f := 4) (fc := ⟨1, 3, .fz, c_check_row W⟩) rfl Z.d4 fs4 rfl rfl (fun cdv A outer s H E hr => ?_)
  have r0 := hr.mono (j := 6 * n) (by omega)
  have r1 := hr.mono (j := 6 * n + 1) (by omega)
  have r3 := hr.mono (j := 6 * n + 3) (by omega)
  have r3a := hr.mono (j := 3) (by omega)
  have r5 := hr.mono (j := 5) (by omega)
  have hu0 := hr.units
  have hu := hr.units65
  refine code_of (pssc_cons (psc_if (ptc_bool (pwc_or (ptc_not (ptc_val (pec_b2 (cv_isiC (isiC_of Z.chk)) bt_isinstance Z.f_isinstance (pec_var (i := 0) rfl (.inl rfl)) (pec_tup (pac_cons (pec_ty (t := .lst) rfl Z.f_list bt_list) (pac_cons (pec_ty (t := .tup) rfl Z.f_tuple bt_tuple) pac_nil)))))) (pwc_or1 (ptc_cmp ov_gt (pec_b1 (cv_lenO (T___len__ Z ih) r1) bt_len Z.f_len (pec_var (i := 0) rfl (.inl rfl))) (pec_gint rfl i_MOST_PLACES) rfl)))) (pssc_one psc_never) pssc_nil)
    (pssc_one (psc_for (n := 100000) PassesOwn.never rfl (pic_enuL rfl Z.f_enumerate (pec_var (i := 0) rfl (.inl rfl))) (pgc_tup rfl (pgsc_cons (pgc_name (i := 1) nd rfl (.inl rfl)) (pgsc_cons (pgc_name (i := 2) nd rfl (.inl rfl)) pgsc_nil))) (pssc_one (psc_if (ptc_not (ptc_val (pec_call (f := 2) (di := []) (ih 2) r0 rfl Z.g_is_key Z.d2.kp b2 hd2 (pac_cons (pec_var (i := 2) rfl (.inl rfl)) pac_nil)))) (pssc_one psc_never) pssc_nil))))) ?_
  rfl
theorem st5 (Z : Facts K mg fds) (T0 : LamX.TabB base mg (He.codeOf K (fnm 1000)) (faK fnm K 1000)) (ih : ∀ i, FnOk P w K mg base CX0 (6 * n) (faK fnm K i) (fds i) (PS i) (spF ⟨K, faK fnm K, fcK cd K⟩ (callF F n) i)) : FnOk P w K mg base CX0 (6 * (n + 1)) (faK fnm K 5) (fds 5) (PS 5) (spF ⟨K, faK fnm K, fcK cd K⟩ (callF F (n + 1)) 5) := by
  obtain ⟨_, i_MOST_PLACES⟩ := Z.i_MOST_PLACES
  have b1 := bn1 Z
  have hd1 : Vals (dV []) [] := .nil
  have b3 := bn3 Z
  have hd3 : Vals (dV []) [] := .nil
  have nd := fs5.nd
  refine fn_ok (G := ⟨K, faK fnm K, fcK cd K⟩) (f := 5) (fc := ⟨3, 3, .fz, c_Tree___init__ W⟩) rfl Z.d5 fs5 rfl rfl (fun cdv A outer s H E hr => ?_)
  have r0 := hr.mono (j := 6 * n) (by omega)
  have r1 := hr.mono (j := 6 * n + 1) (by omega)
  have r3 := hr.mono (j := 6 * n + 3) (by omega)
  have r3a := hr.mono (j := 3) (by omega)
  have r5 := hr.mono (j := 5) (by omega)
  have hu0 := hr.units
  have hu := hr.units65
  refine code_of (pssc_cons (psc_expr (pec_call (f := 3) (di := []) (ih 3) r0 rfl Z.g_check_arms Z.d3.kp b3 hd3 (pac_cons (pec_var (i := 2) rfl (.inl rfl)) pac_nil)))
    (pssc_cons (psc_if (ptc_not (ptc_val (pec_call (f := 1) (di := []) (ih 1) r0 rfl Z.g_is_number Z.d1.kp b1 hd1 (pac_cons (pec_var (i := 1) rfl (.inl rfl)) (pac_cons pec_int (pac_cons (pec_gint rfl i_MOST_PLACES) pac_nil)))))) (pssc_one psc_never) pssc_nil)
    (pssc_cons (psc_fld (S_many Z) (pec_var (i := 0) rfl (.inl rfl)) (pec_var (i := 1) rfl (.inl rfl)))
    (pssc_cons (psc_fld (S_arms Z) (pec_var (i := 0) rfl (.inl rfl)) (pec_var (i := 2) rfl (.inl rfl)))
    (pssc_one (psc_fld (S_places Z) (pec_var (i := 0) rfl (.inl rfl)) (pec_tupRg1 rfl rfl Z.f_tuple rfl Z.f_range (pec_var (i := 1) rfl (.inl rfl))))))))) ?_
  rfl
theorem st2006 (Z : Facts K mg fds) (T0 : LamX.TabB base mg (He.codeOf K (fnm 1000)) (faK fnm K 1000)) (ih : ∀ i, FnOk P w K mg base CX0 (6 * n) (faK fnm K i) (fds i) (PS i) (spF ⟨K, faK fnm K, fcK cd K⟩ (callF F n) i)) : FnOk P w K mg base CX0 (6 * (n + 1)) (faK fnm K 2006) (fds 2006) (PS 2006) (spF ⟨K, faK fnm K, fcK cd K⟩ (callF F (n + 1)) 2006) := by
  have b3 := bn3 Z
  have hd3 : Vals (dV []) [] := .nil
  have b4 := bn4 Z
  have hd4 : Vals (dV []) [] := .nil
  have nd := fs2006.nd
  refine fn_ok (G := ⟨K, faK fnm K, fcK cd K⟩) (f := 2006) (fc := ⟨3, 3, .fz, c_Tree_of W⟩) rfl Z.d2006 fs2006 rfl rfl (fun cdv A outer s H E hr => ?_)
  have r0 := hr.mono (j := 6 * n) (by omega)
  have r1 := hr.mono (j := 6 * n + 1) (by omega)
  have r3 := hr.mono (j := 6 * n + 3) (by omega)
  have r3a := hr.mono (j := 3) (by omega)
  have r5 := hr.mono (j := 5) (by omega)
  have hu0 := hr.units
  have hu := hr.units65
  refine code_of (pssc_cons (psc_expr (pec_call (f := 3) (di := []) (ih 3) r0 rfl Z.g_check_arms Z.d3.kp b3 hd3 (pac_cons (pec_var (i := 2) rfl (.inl rfl)) pac_nil)))
    (pssc_cons (psc_expr (pec_call (f := 4) (di := []) (ih 4) r0 rfl Z.g_check_row Z.d4.kp b4 hd4 (pac_cons (pec_var (i := 1) rfl (.inl rfl)) pac_nil)))
    (pssc_one (psc_ret (pec_newV (i := 0) (j := 5) (keep := false) (c := 5) Z.mk_Tree (ih 5) r1 rfl (.inl rfl) (kb5 Z) (pac_cons (pec_b1 (cv_lenO (T___len__ Z ih) r1) bt_len Z.f_len (pec_var (i := 1) rfl (.inl rfl))) pac_nil) (pkc_cons (pec_var (i := 2) rfl (.inl rfl)) pkc_nil) (alen_cons alen_nil) (alen_cons alen_nil)))))) ?_
  rfl
theorem st7 (Z : Facts K mg fds) (T0 : LamX.TabB base mg (He.codeOf K (fnm 1000)) (faK fnm K 1000)) (ih : ∀ i, FnOk P w K mg base CX0 (6 * n) (faK fnm K i) (fds i) (PS i) (spF ⟨K, faK fnm K, fcK cd K⟩ (callF F n) i)) : FnOk P w K mg base CX0 (6 * (n + 1)) (faK fnm K 7) (fds 7) (PS 7) (spF ⟨K, faK fnm K, fcK cd K⟩ (callF F (n + 1)) 7) := by
  have nd := fs7.nd
  refine fn_ok (G := ⟨K, faK fnm K, fcK cd K⟩) (f := 7) (fc := ⟨1, 1, .fz, c_Tree___len__ W⟩) rfl Z.d7 fs7 rfl rfl (fun cdv A outer s H E hr => ?_)
  have r0 := hr.mono (j := 6 * n) (by omega)
  have r1 := hr.mono (j := 6 * n + 1) (by omega)
  have r3 := hr.mono (j := 6 * n + 3) (by omega)
  have r3a := hr.mono (j := 3) (by omega)
  have r5 := hr.mono (j := 5) (by omega)
  have hu0 := hr.units
  have hu := hr.units65
  refine code_of (pssc_one (psc_ret (pec_b1 (cv_lenO (T___len__ Z ih) r1) bt_len Z.f_len (pec_fld (S_places Z) (pec_var (i := 0) rfl (.inl rfl)))))) ?_
  rfl
theorem st8 (Z : Facts K mg fds) (T0 : LamX.TabB base mg (He.codeOf K (fnm 1000)) (faK fnm K 1000)) (ih : ∀ i, FnOk P w K mg base CX0 (6 * n) (faK fnm K i) (fds i) (PS i) (spF ⟨K, faK fnm K, fcK cd K⟩ (callF F n) i)) : FnOk P w K mg base CX0 (6 * (n + 1)) (faK fnm K 8) (fds 8) (PS 8) (spF ⟨K, faK fnm K, fcK cd K⟩ (callF F (n + 1)) 8) := by
  have b1 := bn1 Z
  have hd1 : Vals (dV []) [] := .nil
  have nd := fs8.nd
  refine fn_ok (G := ⟨K, faK fnm K, fcK cd K⟩) (f := 8) (fc := ⟨2, 2, .fz, c_Tree___contains__ W⟩) rfl Z.d8 fs8 rfl rfl (fun cdv A outer s H E hr => ?_)
  have r0 := hr.mono (j := 6 * n) (by omega)
  have r1 := hr.mono (j := 6 * n + 1) (by omega)
  have r3 := hr.mono (j := 6 * n + 3) (by omega)
  have r3a := hr.mono (j := 3) (by omega)
  have r5 := hr.mono (j := 5) (by omega)
  have hu0 := hr.units
  have hu := hr.units65
  refine code_of (pssc_one (psc_ret (pec_call (f := 1) (di := []) (ih 1) r0 rfl Z.g_is_number Z.d1.kp b1 hd1 (pac_cons (pec_var (i := 1) rfl (.inl rfl)) (pac_cons pec_int (pac_cons (pec_bin ov_sub (pec_fld (S_many Z) (pec_var (i := 0) rfl (.inl rfl))) pec_int) pac_nil)))))) ?_
  rfl
theorem st9 (Z : Facts K mg fds) (T0 : LamX.TabB base mg (He.codeOf K (fnm 1000)) (faK fnm K 1000)) (ih : ∀ i, FnOk P w K mg base CX0 (6 * n) (faK fnm K i) (fds i) (PS i) (spF ⟨K, faK fnm K, fcK cd K⟩ (callF F n) i)) : FnOk P w K mg base CX0 (6 * (n + 1)) (faK fnm K 9) (fds 9) (PS 9) (spF ⟨K, faK fnm K, fcK cd K⟩ (callF F (n + 1)) 9) := by
  have nd := fs9.nd
  refine fn_ok (G := ⟨K, faK fnm K, fcK cd K⟩) (f := 9) (fc := ⟨1, 1, .fz, c_Tree___iter__ W⟩) rfl Z.d9 fs9 rfl rfl (fun cdv A outer s H E hr => ?_)
  have r0 := hr.mono (j := 6 * n) (by omega)
  have r1 := hr.mono (j := 6 * n + 1) (by omega)
  have r3 := hr.mono (j := 6 * n + 3) (by omega)
  have r3a := hr.mono (j := 3) (by omega)
  have r5 := hr.mono (j := 5) (by omega)
  have hu0 := hr.units
  have hu := hr.units65
  refine code_of (pssc_one (psc_ret pec_never)) ?_
  rfl
theorem st10 (Z : Facts K mg fds) (T0 : LamX.TabB base mg (He.codeOf K (fnm 1000)) (faK fnm K 1000)) (ih : ∀ i, FnOk P w K mg base CX0 (6 * n) (faK fnm K i) (fds i) (PS i) (spF ⟨K, faK fnm K, fcK cd K⟩ (callF F n) i)) : FnOk P w K mg base CX0 (6 * (n + 1)) (faK fnm K 10) (fds 10) (PS 10) (spF ⟨K, faK fnm K, fcK cd K⟩ (callF F (n + 1)) 10) := by
  have nd := fs10.nd
  refine fn_ok (G := ⟨K, faK fnm K, fcK cd K⟩) (f := 10) (fc := ⟨2, 3, .fz, c_Tree___getitem__ W⟩) rfl Z.d10 fs10 rfl rfl (fun cdv A outer s H E hr => ?_)
  have r0 := hr.mono (j := 6 * n) (by omega)
  have r1 := hr.mono (j := 6 * n + 1) (by omega)
  have r3 := hr.mono (j := 6 * n + 3) (by omega)
  have r3a := hr.mono (j := 3) (by omega)
  have r5 := hr.mono (j := 5) (by omega)
  have hu0 := hr.units
  have hu := hr.units65
  refine code_of (pssc_cons (psc_expr (pec_meth (M_check_place Z ih) r0 (pec_var (i := 0) rfl (.inl rfl)) (pac_cons (pec_var (i := 1) rfl (.inl rfl)) pac_nil)))
    (pssc_cons (psc_set (i := 2) nd rfl (.inl rfl) (pec_bin (ov_add _ _) (pec_bin ov_mul (pec_fld (S_arms Z) (pec_var (i := 0) rfl (.inl rfl))) (pec_var (i := 1) rfl (.inl rfl))) pec_int))
    (pssc_one (psc_ret (pec_tupRg2 rfl rfl Z.f_tuple rfl Z.f_range (pec_var (i := 2) rfl (.inl rfl)) (pec_b2 (cv_min2 rfl) bt_min Z.f_min (pec_bin (ov_add _ _) (pec_var (i := 2) rfl (.inl rfl)) (pec_fld (S_arms Z) (pec_var (i := 0) rfl (.inl rfl)))) (pec_fld (S_many Z) (pec_var (i := 0) rfl (.inl rfl))))))))) ?_
  rfl
theorem st11 (Z : Facts K mg fds) (T0 : LamX.TabB base mg (He.codeOf K (fnm 1000)) (faK fnm K 1000)) (ih : ∀ i, FnOk P w K mg base CX0 (6 * n) (faK fnm K i) (fds i) (PS i) (spF ⟨K, faK fnm K, fcK cd K⟩ (callF F n) i)) : FnOk P w K mg base CX0 (6 * (n + 1)) (faK fnm K 11) (fds 11) (PS 11) (spF ⟨K, faK fnm K, fcK cd K⟩ (callF F (n + 1)) 11) := by
  have nd := fs11.nd
  refine fn_ok (G := ⟨K, faK fnm K, fcK cd K⟩) (f := 11) (fc := ⟨2, 2, .fz, c_Tree___eq__ W⟩) rfl Z.d11 fs11 rfl rfl (fun cdv A outer s H E hr => ?_)
  have r0 := hr.mono (j := 6 * n) (by omega)
  have r1 := hr.mono (j := 6 * n + 1) (by omega)
  have r3 := hr.mono (j := 6 * n + 3) (by omega)
  have r3a := hr.mono (j := 3) (by omega)
  have r5 := hr.mono (j := 5) (by omega)
  have hu0 := hr.units
  have hu := hr.units65
  refine code_of (pssc_one (psc_ret (pec_and (pec_b2 (cv_isiC (isiC_of Z.chk)) bt_isinstance Z.f_isinstance (pec_var (i := 1) rfl (.inl rfl)) (pec_cls (c := 5) rfl Z.k_Tree)) (pec_one (pec_cmp (ov_eqO hu (T___eq__ Z ih) r0) (pec_tup (pac_cons (pec_fld (S_many Z) (pec_var (i := 0) rfl (.inl rfl))) (pac_cons (pec_fld (S_arms Z) (pec_var (i := 0) rfl (.inl rfl))) pac_nil))) (pec_tup (pac_cons (pec_fld (S_many Z) (pec_var (i := 1) rfl (.inl rfl))) (pac_cons (pec_fld (S_arms Z) (pec_var (i := 1) rfl (.inl rfl))) pac_nil))) rfl))))) ?_
  rfl
theorem st12 (Z : Facts K mg fds) (T0 : LamX.TabB base mg (He.codeOf K (fnm 1000)) (faK fnm K 1000)) (ih : ∀ i, FnOk P w K mg base CX0 (6 * n) (faK fnm K i) (fds i) (PS i) (spF ⟨K, faK fnm K, fcK cd K⟩ (callF F n) i)) : FnOk P w K mg base CX0 (6 * (n + 1)) (faK fnm K 12) (fds 12) (PS 12) (spF ⟨K, faK fnm K, fcK cd K⟩ (callF F (n + 1)) 12) := by
  have nd := fs12.nd
  refine fn_ok (G := ⟨K, faK fnm K, fcK cd K⟩) (f := 12) (fc := ⟨2, 2, .fz, c_Tree_check_place W⟩) rfl Z.d12 fs12 rfl rfl (fun cdv A outer s H E hr => ?_)
  have r0 := hr.mono (j := 6 * n) (by omega)
  have r1 := hr.mono (j := 6 * n + 1) (by omega)
  have r3 := hr.mono (j := 6 * n + 3) (by omega)
  have r3a := hr.mono (j := 3) (by omega)
  have r5 := hr.mono (j := 5) (by omega)
  have hu0 := hr.units
  have hu := hr.units65
  refine code_of (pssc_one (psc_if (ptc_cmp (ov_notInO hu (T___contains__ Z ih) r0) (pec_var (i := 1) rfl (.inl rfl)) (pec_var (i := 0) rfl (.inl rfl)) rfl) (pssc_one psc_never) pssc_nil)) ?_
  rfl
theorem st13 (Z : Facts K mg fds) (T0 : LamX.TabB base mg (He.codeOf K (fnm 1000)) (faK fnm K 1000)) (ih : ∀ i, FnOk P w K mg base CX0 (6 * n) (faK fnm K i) (fds i) (PS i) (spF ⟨K, faK fnm K, fcK cd K⟩ (callF F n) i)) : FnOk P w K mg base CX0 (6 * (n + 1)) (faK fnm K 13) (fds 13) (PS 13) (spF ⟨K, faK fnm K, fcK cd K⟩ (callF F (n + 1)) 13) := by
  have nd := fs13.nd
  refine fn_ok (G := ⟨K, faK fnm K, fcK cd K⟩) (f := 13) (fc := ⟨2, 2, .fz, c_Tree_parent W⟩) rfl Z.d13 fs13 rfl rfl (fun cdv A outer s H E hr => ?_)
  have r0 := hr.mono (j := 6 * n) (by omega)
  have r1 := hr.mono (j := 6 * n + 1) (by omega)
  have r3 := hr.mono (j := 6 * n + 3) (by omega)
  have r3a := hr.mono (j := 3) (by omega)
  have r5 := hr.mono (j := 5) (by omega)
  have hu0 := hr.units
  have hu := hr.units65
  refine code_of (pssc_cons (psc_expr (pec_meth (M_check_place Z ih) r0 (pec_var (i := 0) rfl (.inl rfl)) (pac_cons (pec_var (i := 1) rfl (.inl rfl)) pac_nil)))
    (pssc_one (psc_ret (pec_if (ptc_cmp ov_gt (pec_var (i := 1) rfl (.inl rfl)) pec_int rfl) (pec_bin ov_fdiv (pec_bin ov_sub (pec_var (i := 1) rfl (.inl rfl)) pec_int) (pec_fld (S_arms Z) (pec_var (i := 0) rfl (.inl rfl)))) pec_non)))) ?_
  rfl
theorem st16 (Z : Facts K mg fds) (T0 : LamX.TabB base mg (He.codeOf K (fnm 1000)) (faK fnm K 1000)) (ih : ∀ i, FnOk P w K mg base CX0 (6 * n) (faK fnm K i) (fds i) (PS i) (spF ⟨K, faK fnm K, fcK cd K⟩ (callF F n) i)) : FnOk P w K mg base CX0 (6 * (n + 1)) (faK fnm K 16) (fds 16) (PS 16) (spF ⟨K, faK fnm K, fcK cd K⟩ (callF F (n + 1)) 16) := by
  have nd := fs16.nd
  refine fn_ok (G := ⟨K, faK fnm K, fcK cd K⟩) (f := 16) (fc := ⟨2, 6, .fz, c_Tree_subtree W⟩) rfl Z.d16 fs16 rfl rfl (fun cdv A outer s H E hr => ?_)
  have r0 := hr.mono (j := 6 * n) (by omega)
  have r1 := hr.mono (j := 6 * n + 1) (by omega)
  have r3 := hr.mono (j := 6 * n + 3) (by omega)
  have r3a := hr.mono (j := 3) (by omega)
  have r5 := hr.mono (j := 5) (by omega)
  have hu0 := hr.units
  have hu := hr.units65
  refine code_of (pssc_cons (psc_expr (pec_meth (M_check_place Z ih) r0 (pec_var (i := 0) rfl (.inr (.inl rfl))) (pac_cons (pec_var (i := 1) rfl (.inl rfl)) pac_nil)))
    (pssc_cons (psc_par (i := 2) (j := 3) nd (pac_cons (pec_lstM pac_nil) (pac_cons (pec_lst (pac_cons (pec_var (i := 1) rfl (.inl rfl)) pac_nil)) pac_nil)))
    (pssc_cons (psc_while (n := 100000) PassesOwn.never (ptc_cmp (ov_neO hu (T___eq__ Z ih) r1) (pec_var (i := 3) rfl (.inl rfl)) (pec_lst pac_nil) rfl) (pssc_cons (psc_expr (pec_ml F.slot_list_extend F.type_list_extend mv_extend (pec_var (i := 2) rfl (.inl rfl)) (pac_cons (pec_var (i := 3) rfl (.inl rfl)) pac_nil)))
    (pssc_one (psc_setLc2 (i := 3) kLst_k rfl nd rfl rfl rfl (pic_own (T___iter__ Z) r3a (pec_var (i := 3) rfl (.inl rfl))) bk16_0 (vs1 := [5]) (by decide) (tg_name (by decide)) (tg_name (by decide)) (fun _ _ _ _ _ => pg_name (i := 4) nd rfl (.inl rfl)) (fun _ _ _ _ _ => ptsc_nil) (fun _ _ _ _ _ => pic_own (T___iter__ Z) r3a (pec_ixO (T___getitem__ Z ih) r1 (pec_var (i := 0) rfl (.inr (.inl rfl))) (pec_var (i := 4) rfl (.inl rfl)))) (fun _ _ _ _ _ => pg_name (i := 5) nd rfl (.inl rfl)) (fun _ _ _ _ _ => ptsc_nil) (fun _ _ _ _ _ => pec_var (i := 5) rfl (.inl rfl))))))
    (pssc_one (psc_ret (pec_t1 (cv_tuple _ _) bt_tuple Z.f_tuple (pec_var (i := 2) rfl (.inl rfl)))))))) ?_
  rfl
theorem st55 (Z : Facts K mg fds) (T0 : LamX.TabB base mg (He.codeOf K (fnm 1000)) (faK fnm K 1000)) (ih : ∀ i, FnOk P w K mg base CX0 (6 * n) (faK fnm K i) (fds i) (PS i) (spF ⟨K, faK fnm K, fcK cd K⟩ (callF F n) i)) : FnOk P w K mg base CX0 (6 * (n + 1)) (faK fnm K 55) (fds 55) (PS 55) (spF ⟨K, faK fnm K, fcK cd K⟩ (callF F (n + 1)) 55) := by
  have b3 := bn3 Z
  have hd3 : Vals (dV []) [] := .nil
  have b4 := bn4 Z
  have hd4 : Vals (dV []) [] := .nil
  have b28 := bn28 Z
  have hd28 : Vals (dV []) [] := .nil
  have nd := fs55.nd
  refine fn_ok (G := ⟨K, faK fnm K, fcK cd K⟩) (f := 55) (fc := ⟨2, 3, .fz, c_check_heap W⟩) rfl Z.d55 fs55 rfl rfl (fun cdv A outer s H E hr => ?_)
  have r0 := hr.mono (j := 6 * n) (by omega)
  have r1 := hr.mono (j := 6 * n + 1) (by omega)
  have r3 := hr.mono (j := 6 * n + 3) (by omega)
  have r3a := hr.mono (j := 3) (by omega)
  have r5 := hr.mono (j := 5) (by omega)
  have hu0 := hr.units
  have hu := hr.units65
  refine code_of (pssc_cons (psc_expr (pec_call (f := 3) (di := []) (ih 3) r0 rfl Z.g_check_arms Z.d3.kp b3 hd3 (pac_cons (pec_var (i := 1) rfl (.inl rfl)) pac_nil)))
    (pssc_cons (psc_expr (pec_call (f := 4) (di := []) (ih 4) r0 rfl Z.g_check_row Z.d4.kp b4 hd4 (pac_cons (pec_var (i := 0) rfl (.inl rfl)) pac_nil)))
    (pssc_cons (psc_set (i := 2) nd rfl (.inl rfl) (pec_fz (pec_call (f := 28) (di := []) (ih 28) r0 rfl Z.g_faults_in Z.d28.kp b28 hd28 (pac_cons (pec_var (i := 0) rfl (.inl rfl)) (pac_cons (pec_newK (keep := false) (c := 5) (i := 5) Z.mk_Tree (ih 5) r1 rfl Z.k_Tree (kb5 Z) (pac_cons (pec_b1 (cv_lenO (T___len__ Z ih) r1) bt_len Z.f_len (pec_var (i := 0) rfl (.inl rfl))) pac_nil) (pkc_cons (pec_var (i := 1) rfl (.inl rfl)) pkc_nil) (alen_cons alen_nil) (alen_cons alen_nil)) pac_nil)))))
    (pssc_one (psc_if (ptc_cmp (ov_neO hu (T___eq__ Z ih) r1) (pec_var (i := 2) rfl (.inl rfl)) (pec_lst pac_nil) rfl) (pssc_one psc_never) pssc_nil))))) ?_
  rfl
theorem st28 (Z : Facts K mg fds) (T0 : LamX.TabB base mg (He.codeOf K (fnm 1000)) (faK fnm K 1000)) (ih : ∀ i, FnOk P w K mg base CX0 (6 * n) (faK fnm K i) (fds i) (PS i) (spF ⟨K, faK fnm K, fcK cd K⟩ (callF F n) i)) : FnOk P w K mg base CX0 (6 * (n + 1)) (faK fnm K 28) (fds 28) (PS 28) (spF ⟨K, faK fnm K, fcK cd K⟩ (callF F (n + 1)) 28) := by
  have nd := fs28.nd
  refine fn_ok (G := ⟨K, faK fnm K, fcK cd K⟩) (f := 28) (fc := ⟨2, 3, .ou, c_faults_in W⟩) rfl Z.d28 fs28 rfl rfl (fun cdv A outer s H E hr => ?_)
  have r0 := hr.mono (j := 6 * n) (by omega)
  have r1 := hr.mono (j := 6 * n + 1) (by omega)
  have r3 := hr.mono (j := 6 * n + 3) (by omega)
  have r3a := hr.mono (j := 3) (by omega)
  have r5 := hr.mono (j := 5) (by omega)
  have hu0 := hr.units
  have hu := hr.units65
  refine code_of (pssc_one (psc_ret (pec_lc kLstM_k rfl nd (pic_own (T___iter__ Z) r3a (pec_var (i := 1) rfl (.inr (.inl rfl)))) bk28_0 (tg_name (by decide)) (fun _ _ _ _ _ => pg_name (i := 2) nd rfl (.inl rfl)) (fun _ _ _ _ _ => ptsc_one (ptc_bool (pwc_and (ptc_cmp ov_gt (pec_var (i := 2) rfl (.inl rfl)) pec_int rfl) (pwc_and1 (ptc_cmp (ov_ltT _ _ hu) (pec_ixO (T___getitem__ Z ih) r1 (pec_var (i := 0) rfl (.inr (.inl rfl))) (pec_var (i := 2) rfl (.inl rfl))) (pec_ixO (T___getitem__ Z ih) r1 (pec_var (i := 0) rfl (.inr (.inl rfl))) (pec_meth (M_parent Z ih) r0 (pec_var (i := 1) rfl (.inr (.inl rfl))) (pac_cons (pec_var (i := 2) rfl (.inl rfl)) pac_nil))) rfl))))) (fun _ _ _ _ _ => pec_var (i := 2) rfl (.inl rfl))))) ?_
  rfl
theorem st29 (Z : Facts K mg fds) (T0 : LamX.TabB base mg (He.codeOf K (fnm 1000)) (faK fnm K 1000)) (ih : ∀ i, FnOk P w K mg base CX0 (6 * n) (faK fnm K i) (fds i) (PS i) (spF ⟨K, faK fnm K, fcK cd K⟩ (callF F n) i)) : FnOk P w K mg base CX0 (6 * (n + 1)) (faK fnm K 29) (fds 29) (PS 29) (spF ⟨K, faK fnm K, fcK cd K⟩ (callF F (n + 1)) 29) := by
  have nd := fs29.nd
  refine fn_ok (G := ⟨K, faK fnm K, fcK cd K⟩) (f := 29) (fc := ⟨2, 4, .ou, c_falls_in W⟩) rfl Z.d29 fs29 rfl rfl (fun cdv A outer s H E hr => ?_)
  have r0 := hr.mono (j := 6 * n) (by omega)
  have r1 := hr.mono (j := 6 * n + 1) (by omega)
  have r3 := hr.mono (j := 6 * n + 3) (by omega)
  have r3a := hr.mono (j := 3) (by omega)
  have r5 := hr.mono (j := 5) (by omega)
  have hu0 := hr.units
  have hu := hr.units65
  refine code_of (pssc_one (psc_ret (pec_lc2 kLstM_k rfl nd (pic_own (T___iter__ Z) r3a (pec_var (i := 1) rfl (.inr (.inl rfl)))) bk29_0 (vs1 := [3]) (by decide) (tg_name (by decide)) (tg_name (by decide)) (fun _ _ _ _ _ => pg_name (i := 2) nd rfl (.inl rfl)) (fun _ _ _ _ _ => ptsc_nil) (fun _ _ _ _ _ => pic_own (T___iter__ Z) r3a (pec_meth (M_subtree Z ih) r0 (pec_var (i := 1) rfl (.inr (.inl rfl))) (pac_cons (pec_var (i := 2) rfl (.inl rfl)) pac_nil))) (fun _ _ _ _ _ => pg_name (i := 3) nd rfl (.inl rfl)) (fun _ _ _ _ _ => ptsc_one (ptc_cmp (ov_ltT _ _ hu) (pec_ixO (T___getitem__ Z ih) r1 (pec_var (i := 0) rfl (.inr (.inl rfl))) (pec_var (i := 3) rfl (.inl rfl))) (pec_ixO (T___getitem__ Z ih) r1 (pec_var (i := 0) rfl (.inr (.inl rfl))) (pec_var (i := 2) rfl (.inl rfl))) rfl)) (fun _ _ _ _ _ => pec_tup (pac_cons (pec_var (i := 2) rfl (.inl rfl)) (pac_cons (pec_var (i := 3) rfl (.inl rfl)) pac_nil)))))) ?_
  rfl
theorem st31 (Z : Facts K mg fds) (T0 : LamX.TabB base mg (He.codeOf K (fnm 1000)) (faK fnm K 1000)) (ih : ∀ i, FnOk P w K mg base CX0 (6 * n) (faK fnm K i) (fds i) (PS i) (spF ⟨K, faK fnm K, fcK cd K⟩ (callF F n) i)) : FnOk P w K mg base CX0 (6 * (n + 1)) (faK fnm K 31) (fds 31) (PS 31) (spF ⟨K, faK fnm K, fcK cd K⟩ (callF F (n + 1)) 31) := by
  have b3 := bn3 Z
  have hd3 : Vals (dV []) [] := .nil
  have b4 := bn4 Z
  have hd4 : Vals (dV []) [] := .nil
  have b28 := bn28 Z
  have hd28 : Vals (dV []) [] := .nil
  have nd := fs31.nd
  refine fn_ok (G := ⟨K, faK fnm K, fcK cd K⟩) (f := 31) (fc := ⟨2, 2, .ou, c_faults W⟩) rfl Z.d31 fs31 rfl rfl (fun cdv A outer s H E hr => ?_)
  have r0 := hr.mono (j := 6 * n) (by omega)
  have r1 := hr.mono (j := 6 * n + 1) (by omega)
  have r3 := hr.mono (j := 6 * n + 3) (by omega)
  have r3a := hr.mono (j := 3) (by omega)
  have r5 := hr.mono (j := 5) (by omega)
  have hu0 := hr.units
  have hu := hr.units65
  refine code_of (pssc_cons (psc_expr (pec_call (f := 3) (di := []) (ih 3) r0 rfl Z.g_check_arms Z.d3.kp b3 hd3 (pac_cons (pec_var (i := 1) rfl (.inl rfl)) pac_nil)))
    (pssc_cons (psc_expr (pec_call (f := 4) (di := []) (ih 4) r0 rfl Z.g_check_row Z.d4.kp b4 hd4 (pac_cons (pec_var (i := 0) rfl (.inl rfl)) pac_nil)))
    (pssc_one (psc_ret (pec_call (f := 28) (di := []) (ih 28) r0 rfl Z.g_faults_in Z.d28.kp b28 hd28 (pac_cons (pec_var (i := 0) rfl (.inl rfl)) (pac_cons (pec_newK (keep := false) (c := 5) (i := 5) Z.mk_Tree (ih 5) r1 rfl Z.k_Tree (kb5 Z) (pac_cons (pec_b1 (cv_lenO (T___len__ Z ih) r1) bt_len Z.f_len (pec_var (i := 0) rfl (.inl rfl))) pac_nil) (pkc_cons (pec_var (i := 1) rfl (.inl rfl)) pkc_nil) (alen_cons alen_nil) (alen_cons alen_nil)) pac_nil))))))) ?_
  rfl
theorem st32 (Z : Facts K mg fds) (T0 : LamX.TabB base mg (He.codeOf K (fnm 1000)) (faK fnm K 1000)) (ih : ∀ i, FnOk P w K mg base CX0 (6 * n) (faK fnm K i) (fds i) (PS i) (spF ⟨K, faK fnm K, fcK cd K⟩ (callF F n) i)) : FnOk P w K mg base CX0 (6 * (n + 1)) (faK fnm K 32) (fds 32) (PS 32) (spF ⟨K, faK fnm K, fcK cd K⟩ (callF F (n + 1)) 32) := by
  have b3 := bn3 Z
  have hd3 : Vals (dV []) [] := .nil
  have b4 := bn4 Z
  have hd4 : Vals (dV []) [] := .nil
  have b29 := bn29 Z
  have hd29 : Vals (dV []) [] := .nil
  have nd := fs32.nd
  refine fn_ok (G := ⟨K, faK fnm K, fcK cd K⟩) (f := 32) (fc := ⟨2, 2, .ou, c_falls W⟩) rfl Z.d32 fs32 rfl rfl (fun cdv A outer s H E hr => ?_)
  have r0 := hr.mono (j := 6 * n) (by omega)
  have r1 := hr.mono (j := 6 * n + 1) (by omega)
  have r3 := hr.mono (j := 6 * n + 3) (by omega)
  have r3a := hr.mono (j := 3) (by omega)
  have r5 := hr.mono (j := 5) (by omega)
  have hu0 := hr.units
  have hu := hr.units65
  refine code_of (pssc_cons (psc_expr (pec_call (f := 3) (di := []) (ih 3) r0 rfl Z.g_check_arms Z.d3.kp b3 hd3 (pac_cons (pec_var (i := 1) rfl (.inl rfl)) pac_nil)))
    (pssc_cons (psc_expr (pec_call (f := 4) (di := []) (ih 4) r0 rfl Z.g_check_row Z.d4.kp b4 hd4 (pac_cons (pec_var (i := 0) rfl (.inl rfl)) pac_nil)))
    (pssc_one (psc_ret (pec_call (f := 29) (di := []) (ih 29) r0 rfl Z.g_falls_in Z.d29.kp b29 hd29 (pac_cons (pec_var (i := 0) rfl (.inl rfl)) (pac_cons (pec_newK (keep := false) (c := 5) (i := 5) Z.mk_Tree (ih 5) r1 rfl Z.k_Tree (kb5 Z) (pac_cons (pec_b1 (cv_lenO (T___len__ Z ih) r1) bt_len Z.f_len (pec_var (i := 0) rfl (.inl rfl))) pac_nil) (pkc_cons (pec_var (i := 1) rfl (.inl rfl)) pkc_nil) (alen_cons alen_nil) (alen_cons alen_nil)) pac_nil))))))) ?_
  rfl
theorem st40 (Z : Facts K mg fds) (T0 : LamX.TabB base mg (He.codeOf K (fnm 1000)) (faK fnm K 1000)) (ih : ∀ i, FnOk P w K mg base CX0 (6 * n) (faK fnm K i) (fds i) (PS i) (spF ⟨K, faK fnm K, fcK cd K⟩ (callF F n) i)) : FnOk P w K mg base CX0 (6 * (n + 1)) (faK fnm K 40) (fds 40) (PS 40) (spF ⟨K, faK fnm K, fcK cd K⟩ (callF F (n + 1)) 40) := by
  have nd := fs40.nd
  refine fn_ok (G := ⟨K, faK fnm K, fcK cd K⟩) (f := 40) (fc := ⟨4, 4, .fz, c_Sift___init__ W⟩) rfl Z.d40 fs40 rfl rfl (fun cdv A outer s H E hr => ?_)
  have r0 := hr.mono (j := 6 * n) (by omega)
  have r1 := hr.mono (j := 6 * n + 1) (by omega)
  have r3 := hr.mono (j := 6 * n + 3) (by omega)
  have r3a := hr.mono (j := 3) (by omega)
  have r5 := hr.mono (j := 5) (by omega)
  have hu0 := hr.units
  have hu := hr.units65
  refine code_of (pssc_cons (psc_fld (S_row Z) (pec_var (i := 0) rfl (.inl rfl)) (pec_t1 (cv_tuple _ _) bt_tuple Z.f_tuple (pec_var (i := 1) rfl (.inl rfl))))
    (pssc_cons (psc_fld (S_way Z) (pec_var (i := 0) rfl (.inl rfl)) (pec_t1 (cv_tuple _ _) bt_tuple Z.f_tuple (pec_var (i := 2) rfl (.inl rfl))))
    (pssc_one (psc_fld (S_looks Z) (pec_var (i := 0) rfl (.inl rfl)) (pec_var (i := 3) rfl (.inl rfl)))))) ?_
  rfl
theorem st41 (Z : Facts K mg fds) (T0 : LamX.TabB base mg (He.codeOf K (fnm 1000)) (faK fnm K 1000)) (ih : ∀ i, FnOk P w K mg base CX0 (6 * n) (faK fnm K i) (fds i) (PS i) (spF ⟨K, faK fnm K, fcK cd K⟩ (callF F n) i)) : FnOk P w K mg base CX0 (6 * (n + 1)) (faK fnm K 41) (fds 41) (PS 41) (spF ⟨K, faK fnm K, fcK cd K⟩ (callF F (n + 1)) 41) := by
  have nd := fs41.nd
  refine fn_ok (G := ⟨K, faK fnm K, fcK cd K⟩) (f := 41) (fc := ⟨2, 2, .fz, c_Sift___eq__ W⟩) rfl Z.d41 fs41 rfl rfl (fun cdv A outer s H E hr => ?_)
  have r0 := hr.mono (j := 6 * n) (by omega)
  have r1 := hr.mono (j := 6 * n + 1) (by omega)
  have r3 := hr.mono (j := 6 * n + 3) (by omega)
  have r3a := hr.mono (j := 3) (by omega)
  have r5 := hr.mono (j := 5) (by omega)
  have hu0 := hr.units
  have hu := hr.units65
  refine code_of (pssc_one (psc_ret (pec_and (pec_b2 (cv_isiC (isiC_of Z.chk)) bt_isinstance Z.f_isinstance (pec_var (i := 1) rfl (.inl rfl)) (pec_cls (c := 6) rfl Z.k_Sift)) (pec_one (pec_cmp (ov_eqO hu (T___eq__ Z ih) r0) (pec_tup (pac_cons (pec_fld (S_row Z) (pec_var (i := 0) rfl (.inl rfl))) (pac_cons (pec_fld (S_way Z) (pec_var (i := 0) rfl (.inl rfl))) (pac_cons (pec_fld (S_looks Z) (pec_var (i := 0) rfl (.inl rfl))) pac_nil)))) (pec_tup (pac_cons (pec_fld (S_row Z) (pec_var (i := 1) rfl (.inl rfl))) (pac_cons (pec_fld (S_way Z) (pec_var (i := 1) rfl (.inl rfl))) (pac_cons (pec_fld (S_looks Z) (pec_var (i := 1) rfl (.inl rfl))) pac_nil)))) rfl))))) ?_
  rfl
theorem st42 (Z : Facts K mg fds) (T0 : LamX.TabB base mg (He.codeOf K (fnm 1000)) (faK fnm K 1000)) (ih : ∀ i, FnOk P w K mg base CX0 (6 * n) (faK fnm K i) (fds i) (PS i) (spF ⟨K, faK fnm K, fcK cd K⟩ (callF F n) i)) : FnOk P w K mg base CX0 (6 * (n + 1)) (faK fnm K 42) (fds 42) (PS 42) (spF ⟨K, faK fnm K, fcK cd K⟩ (callF F (n + 1)) 42) := by
  have nd := fs42.nd
  refine fn_ok (G := ⟨K, faK fnm K, fcK cd K⟩) (f := 42) (fc := ⟨2, 6, .fz, c_moved W⟩) rfl Z.d42 fs42 rfl rfl (fun cdv A outer s H E hr => ?_)
  have r0 := hr.mono (j := 6 * n) (by omega)
  have r1 := hr.mono (j := 6 * n + 1) (by omega)
  have r3 := hr.mono (j := 6 * n + 3) (by omega)
  have r3a := hr.mono (j := 3) (by omega)
  have r5 := hr.mono (j := 5) (by omega)
  have hu0 := hr.units
  have hu := hr.units65
  refine code_of (pssc_cons (psc_par (i := 2) (j := 3) nd (pac_cons (pec_t1 (cv_listUM (T___iter__ Z) (T___len__ Z ih) r3 r5 rfl) bt_list Z.f_list (pec_var (i := 0) rfl (.inl rfl))) (pac_cons (pec_ixO (T___getitem__ Z ih) r1 (pec_var (i := 0) rfl (.inl rfl)) (pec_ixO (T___getitem__ Z ih) r1 (pec_var (i := 1) rfl (.inl rfl)) pec_int)) pac_nil)))
    (pssc_cons (psc_for (n := 100000) PassesOwn.never rfl (pic_zip rfl Z.f_zip (pec_var (i := 1) rfl (.inl rfl)) (pec_slice (sv_sl _ _) (fun _ _ _ _ _ _ h => vSl_parts h) (pec_var (i := 1) rfl (.inl rfl)) (poc_e pec_int) poc_none)) (pgc_tup rfl (pgsc_cons (pgc_name (i := 4) nd rfl (.inl rfl)) (pgsc_cons (pgc_name (i := 5) nd rfl (.inl rfl)) pgsc_nil))) (pssc_one (psc_asg (pec_ixO (T___getitem__ Z ih) r1 (pec_var (i := 0) rfl (.inl rfl)) (pec_var (i := 5) rfl (.inl rfl))) (pgc_sub (pec_var (i := 2) rfl (.inl rfl)) (pec_var (i := 4) rfl (.inl rfl))))))
    (pssc_cons (psc_asg (pec_var (i := 3) rfl (.inl rfl)) (pgc_sub (pec_var (i := 2) rfl (.inl rfl)) (pec_ixO (T___getitem__ Z ih) r1 (pec_var (i := 1) rfl (.inl rfl)) (pec_un ov_neg pec_int))))
    (pssc_one (psc_ret (pec_var (i := 2) rfl (.inl rfl))))))) ?_
  rfl
theorem st43 (Z : Facts K mg fds) (T0 : LamX.TabB base mg (He.codeOf K (fnm 1000)) (faK fnm K 1000)) (ih : ∀ i, FnOk P w K mg base CX0 (6 * n) (faK fnm K i) (fds i) (PS i) (spF ⟨K, faK fnm K, fcK cd K⟩ (callF F n) i)) : FnOk P w K mg base CX0 (6 * (n + 1)) (faK fnm K 43) (fds 43) (PS 43) (spF ⟨K, faK fnm K, fcK cd K⟩ (callF F (n + 1)) 43) := by
  have nd := fs43.nd
  refine fn_okL (G := ⟨K, faK fnm K, fcK cd K⟩) (f := 43) (p := ("first_least", none)) (fc := ⟨2, 3, .fz, c_first_least W⟩) rfl Z.d43 rfl fs43 rfl rfl (fun A outer s H E hr => ?_)
  have r0 := hr.mono (j := 6 * n) (by omega)
  have r1 := hr.mono (j := 6 * n + 1) (by omega)
  have r3 := hr.mono (j := 6 * n + 3) (by omega)
  have r3a := hr.mono (j := 3) (by omega)
  have r5 := hr.mono (j := 5) (by omega)
  have hu0 := hr.units
  have hu := hr.units65
  refine code_of (pssc_one (psc_ret (pec_minK (t := 0) (i := 0) (j := 2) (p := "place") T0 rfl (show (("first_least" : Str) ++ ".<locals>." ++ "<lambda>" : Str) = tabNm 0 by decide +kernel) r5 (lamP_by (sc := sc43) (by decide +kernel)) rfl (fun _ h => nodup_ix nd h rfl) rfl (fun _ _ _ _ _ _ => rfl) Z.f_min (pec_var (i := 1) rfl (.inl rfl)) (fun _ _ _ _ _ _ _ => pec_tup (pac_cons (pec_ix (iv_ix _ _) (pec_var (i := 0) rfl (.inr (.inr rfl))) (pec_var (i := 2) rfl (.inl rfl))) (pac_cons (pec_var (i := 2) rfl (.inl rfl)) pac_nil))) (pu_tup (pu_cons (pu_ix (pu_var _) (pu_var _)) (pu_cons (pu_var _) pu_nil)))))) ?_
  rfl
theorem st44 (Z : Facts K mg fds) (T0 : LamX.TabB base mg (He.codeOf K (fnm 1000)) (faK fnm K 1000)) (ih : ∀ i, FnOk P w K mg base CX0 (6 * n) (faK fnm K i) (fds i) (PS i) (spF ⟨K, faK fnm K, fcK cd K⟩ (callF F n) i)) : FnOk P w K mg base CX0 (6 * (n + 1)) (faK fnm K 44) (fds 44) (PS 44) (spF ⟨K, faK fnm K, fcK cd K⟩ (callF F (n + 1)) 44) := by
  have nd := fs44.nd
  refine fn_ok (G := ⟨K, faK fnm K, fcK cd K⟩) (f := 44) (fc := ⟨3, 7, .fz, c_way_up W⟩) rfl Z.d44 fs44 rfl rfl (fun cdv A outer s H E hr => ?_)
  have r0 := hr.mono (j := 6 * n) (by omega)
  have r1 := hr.mono (j := 6 * n + 1) (by omega)
  have r3 := hr.mono (j := 6 * n + 3) (by omega)
  have r3a := hr.mono (j := 3) (by omega)
  have r5 := hr.mono (j := 5) (by omega)
  have hu0 := hr.units
  have hu := hr.units65
  refine code_of (pssc_cons (psc_par3 (i := 3) (j := 4) (l := 5) nd (pac_cons (pec_ixO (T___getitem__ Z ih) r1 (pec_var (i := 0) rfl (.inl rfl)) (pec_var (i := 2) rfl (.inl rfl))) (pac_cons (pec_lstM (pac_cons (pec_var (i := 2) rfl (.inl rfl)) pac_nil)) (pac_cons pec_int pac_nil))))
    (pssc_cons (psc_while (n := 100000) PassesOwn.never (ptc_cmp ov_gt (pec_ixO (T___getitem__ Z ih) r1 (pec_var (i := 4) rfl (.inl rfl)) (pec_un ov_neg pec_int)) pec_int rfl) (pssc_cons (psc_set (i := 6) nd rfl (.inl rfl) (pec_meth (M_parent Z ih) r0 (pec_var (i := 1) rfl (.inl rfl)) (pac_cons (pec_ixO (T___getitem__ Z ih) r1 (pec_var (i := 4) rfl (.inl rfl)) (pec_un ov_neg pec_int)) pac_nil)))
    (pssc_cons (psc_aug (i := 5) nd rfl (.inl rfl) pec_int ip_add)
    (pssc_cons (psc_if (ptc_cmp (ov_leT _ _ hu) (pec_ixO (T___getitem__ Z ih) r1 (pec_var (i := 0) rfl (.inl rfl)) (pec_var (i := 6) rfl (.inl rfl))) (pec_var (i := 3) rfl (.inl rfl)) rfl) (pssc_one psc_break) pssc_nil)
    (pssc_one (psc_expr (pec_ml F.slot_list_append F.type_list_append mv_append (pec_var (i := 4) rfl (.inl rfl)) (pac_cons (pec_var (i := 6) rfl (.inl rfl)) pac_nil))))))))
    (pssc_one (psc_ret (pec_tup (pac_cons (pec_var (i := 4) rfl (.inl rfl)) (pac_cons (pec_var (i := 5) rfl (.inl rfl)) pac_nil))))))) ?_
  rfl
theorem st45 (Z : Facts K mg fds) (T0 : LamX.TabB base mg (He.codeOf K (fnm 1000)) (faK fnm K 1000)) (ih : ∀ i, FnOk P w K mg base CX0 (6 * n) (faK fnm K i) (fds i) (PS i) (spF ⟨K, faK fnm K, fcK cd K⟩ (callF F n) i)) : FnOk P w K mg base CX0 (6 * (n + 1)) (faK fnm K 45) (fds 45) (PS 45) (spF ⟨K, faK fnm K, fcK cd K⟩ (callF F (n + 1)) 45) := by
  have b43 := bn43 Z
  have hd43 : Vals (dV []) [] := .nil
  have nd := fs45.nd
  refine fn_ok (G := ⟨K, faK fnm K, fcK cd K⟩) (f := 45) (fc := ⟨3, 8, .fz, c_way_down W⟩) rfl Z.d45 fs45 rfl rfl (fun cdv A outer s H E hr => ?_)
  have r0 := hr.mono (j := 6 * n) (by omega)
  have r1 := hr.mono (j := 6 * n + 1) (by omega)
  have r3 := hr.mono (j := 6 * n + 3) (by omega)
  have r3a := hr.mono (j := 3) (by omega)
  have r5 := hr.mono (j := 5) (by omega)
  have hu0 := hr.units
  have hu := hr.units65
  refine code_of (pssc_cons (psc_par3 (i := 3) (j := 4) (l := 5) nd (pac_cons (pec_ixO (T___getitem__ Z ih) r1 (pec_var (i := 0) rfl (.inl rfl)) (pec_var (i := 2) rfl (.inl rfl))) (pac_cons (pec_lstM (pac_cons (pec_var (i := 2) rfl (.inl rfl)) pac_nil)) (pac_cons pec_int pac_nil))))
    (pssc_cons (psc_while (n := 100000) PassesOwn.never (ptc_cmp (ov_neO hu (T___eq__ Z ih) r1) (pec_ixO (T___getitem__ Z ih) r1 (pec_var (i := 1) rfl (.inl rfl)) (pec_ixO (T___getitem__ Z ih) r1 (pec_var (i := 4) rfl (.inl rfl)) (pec_un ov_neg pec_int))) (pec_tup pac_nil) rfl) (pssc_cons (psc_set (i := 6) nd rfl (.inl rfl) (pec_ixO (T___getitem__ Z ih) r1 (pec_var (i := 1) rfl (.inl rfl)) (pec_ixO (T___getitem__ Z ih) r1 (pec_var (i := 4) rfl (.inl rfl)) (pec_un ov_neg pec_int))))
    (pssc_cons (psc_aug (i := 5) nd rfl (.inl rfl) (pec_b1 (cv_lenO (T___len__ Z ih) r1) bt_len Z.f_len (pec_var (i := 6) rfl (.inl rfl))) ip_add)
    (pssc_cons (psc_set (i := 7) nd rfl (.inl rfl) (pec_call (f := 43) (di := []) (ih 43) r0 rfl Z.g_first_least Z.d43.kp b43 hd43 (pac_cons (pec_var (i := 0) rfl (.inl rfl)) (pac_cons (pec_var (i := 6) rfl (.inl rfl)) pac_nil))))
    (pssc_cons (psc_if (ptc_cmp (ov_leT _ _ hu) (pec_var (i := 3) rfl (.inl rfl)) (pec_ixO (T___getitem__ Z ih) r1 (pec_var (i := 0) rfl (.inl rfl)) (pec_var (i := 7) rfl (.inl rfl))) rfl) (pssc_one psc_break) pssc_nil)
    (pssc_one (psc_expr (pec_ml F.slot_list_append F.type_list_append mv_append (pec_var (i := 4) rfl (.inl rfl)) (pac_cons (pec_var (i := 7) rfl (.inl rfl)) pac_nil)))))))))
    (pssc_one (psc_ret (pec_tup (pac_cons (pec_var (i := 4) rfl (.inl rfl)) (pac_cons (pec_var (i := 5) rfl (.inl rfl)) pac_nil))))))) ?_
  rfl
theorem st46 (Z : Facts K mg fds) (T0 : LamX.TabB base mg (He.codeOf K (fnm 1000)) (faK fnm K 1000)) (ih : ∀ i, FnOk P w K mg base CX0 (6 * n) (faK fnm K i) (fds i) (PS i) (spF ⟨K, faK fnm K, fcK cd K⟩ (callF F n) i)) : FnOk P w K mg base CX0 (6 * (n + 1)) (faK fnm K 46) (fds 46) (PS 46) (spF ⟨K, faK fnm K, fcK cd K⟩ (callF F (n + 1)) 46) := by
  have b40 := bn40 Z
  have hd40 : Vals (dV []) [] := .nil
  have b42 := bn42 Z
  have hd42 : Vals (dV []) [] := .nil
  have b44 := bn44 Z
  have hd44 : Vals (dV []) [] := .nil
  have nd := fs46.nd
  refine fn_ok (G := ⟨K, faK fnm K, fcK cd K⟩) (f := 46) (fc := ⟨3, 5, .fz, c_lifted W⟩) rfl Z.d46 fs46 rfl rfl (fun cdv A outer s H E hr => ?_)
  have r0 := hr.mono (j := 6 * n) (by omega)
  have r1 := hr.mono (j := 6 * n + 1) (by omega)
  have r3 := hr.mono (j := 6 * n + 3) (by omega)
  have r3a := hr.mono (j := 3) (by omega)
  have r5 := hr.mono (j := 5) (by omega)
  have hu0 := hr.units
  have hu := hr.units65
  refine code_of (pssc_cons (psc_asg (pec_call (f := 44) (di := []) (ih 44) r0 rfl Z.g_way_up Z.d44.kp b44 hd44 (pac_cons (pec_var (i := 0) rfl (.inl rfl)) (pac_cons (pec_var (i := 1) rfl (.inl rfl)) (pac_cons (pec_var (i := 2) rfl (.inl rfl)) pac_nil)))) (pgc_tup rfl (pgsc_cons (pgc_name (i := 3) nd rfl (.inl rfl)) (pgsc_cons (pgc_name (i := 4) nd rfl (.inl rfl)) pgsc_nil))))
    (pssc_one (psc_ret (pec_new (keep := false) (c := 6) (i := 40) (di := []) Z.mk_Sift (ih 40) r1 rfl Z.k_Sift b40 hd40 (pac_cons (pec_call (f := 42) (di := []) (ih 42) r0 rfl Z.g_moved Z.d42.kp b42 hd42 (pac_cons (pec_var (i := 0) rfl (.inl rfl)) (pac_cons (pec_var (i := 3) rfl (.inl rfl)) pac_nil))) (pac_cons (pec_var (i := 3) rfl (.inl rfl)) (pac_cons (pec_var (i := 4) rfl (.inl rfl)) pac_nil))))))) ?_
  rfl
theorem st47 (Z : Facts K mg fds) (T0 : LamX.TabB base mg (He.codeOf K (fnm 1000)) (faK fnm K 1000)) (ih : ∀ i, FnOk P w K mg base CX0 (6 * n) (faK fnm K i) (fds i) (PS i) (spF ⟨K, faK fnm K, fcK cd K⟩ (callF F n) i)) : FnOk P w K mg base CX0 (6 * (n + 1)) (faK fnm K 47) (fds 47) (PS 47) (spF ⟨K, faK fnm K, fcK cd K⟩ (callF F (n + 1)) 47) := by
  have b40 := bn40 Z
  have hd40 : Vals (dV []) [] := .nil
  have b42 := bn42 Z
  have hd42 : Vals (dV []) [] := .nil
  have b45 := bn45 Z
  have hd45 : Vals (dV []) [] := .nil
  have nd := fs47.nd
  refine fn_ok (G := ⟨K, faK fnm K, fcK cd K⟩) (f := 47) (fc := ⟨3, 5, .fz, c_sunk W⟩) rfl Z.d47 fs47 rfl rfl (fun cdv A outer s H E hr => ?_)
  have r0 := hr.mono (j := 6 * n) (by omega)
  have r1 := hr.mono (j := 6 * n + 1) (by omega)
  have r3 := hr.mono (j := 6 * n + 3) (by omega)
  have r3a := hr.mono (j := 3) (by omega)
  have r5 := hr.mono (j := 5) (by omega)
  have hu0 := hr.units
  have hu := hr.units65
  refine code_of (pssc_cons (psc_asg (pec_call (f := 45) (di := []) (ih 45) r0 rfl Z.g_way_down Z.d45.kp b45 hd45 (pac_cons (pec_var (i := 0) rfl (.inl rfl)) (pac_cons (pec_var (i := 1) rfl (.inl rfl)) (pac_cons (pec_var (i := 2) rfl (.inl rfl)) pac_nil)))) (pgc_tup rfl (pgsc_cons (pgc_name (i := 3) nd rfl (.inl rfl)) (pgsc_cons (pgc_name (i := 4) nd rfl (.inl rfl)) pgsc_nil))))
    (pssc_one (psc_ret (pec_new (keep := false) (c := 6) (i := 40) (di := []) Z.mk_Sift (ih 40) r1 rfl Z.k_Sift b40 hd40 (pac_cons (pec_call (f := 42) (di := []) (ih 42) r0 rfl Z.g_moved Z.d42.kp b42 hd42 (pac_cons (pec_var (i := 0) rfl (.inl rfl)) (pac_cons (pec_var (i := 3) rfl (.inl rfl)) pac_nil))) (pac_cons (pec_var (i := 3) rfl (.inl rfl)) (pac_cons (pec_var (i := 4) rfl (.inl rfl)) pac_nil))))))) ?_
  rfl
theorem st48 (Z : Facts K mg fds) (T0 : LamX.TabB base mg (He.codeOf K (fnm 1000)) (faK fnm K 1000)) (ih : ∀ i, FnOk P w K mg base CX0 (6 * n) (faK fnm K i) (fds i) (PS i) (spF ⟨K, faK fnm K, fcK cd K⟩ (callF F n) i)) : FnOk P w K mg base CX0 (6 * (n + 1)) (faK fnm K 48) (fds 48) (PS 48) (spF ⟨K, faK fnm K, fcK cd K⟩ (callF F (n + 1)) 48) := by
  have b3 := bn3 Z
  have hd3 : Vals (dV []) [] := .nil
  have b4 := bn4 Z
  have hd4 : Vals (dV []) [] := .nil
  have b46 := bn46 Z
  have hd46 : Vals (dV []) [] := .nil
  have nd := fs48.nd
  refine fn_ok (G := ⟨K, faK fnm K, fcK cd K⟩) (f := 48) (fc := ⟨3, 4, .fz, c_sift_up W⟩) rfl Z.d48 fs48 rfl rfl (fun cdv A outer s H E hr => ?_)
  have r0 := hr.mono (j := 6 * n) (by omega)
  have r1 := hr.mono (j := 6 * n + 1) (by omega)
  have r3 := hr.mono (j := 6 * n + 3) (by omega)
  have r3a := hr.mono (j := 3) (by omega)
  have r5 := hr.mono (j := 5) (by omega)
  have hu0 := hr.units
  have hu := hr.units65
  refine code_of (pssc_cons (psc_expr (pec_call (f := 3) (di := []) (ih 3) r0 rfl Z.g_check_arms Z.d3.kp b3 hd3 (pac_cons (pec_var (i := 2) rfl (.inl rfl)) pac_nil)))
    (pssc_cons (psc_expr (pec_call (f := 4) (di := []) (ih 4) r0 rfl Z.g_check_row Z.d4.kp b4 hd4 (pac_cons (pec_var (i := 0) rfl (.inl rfl)) pac_nil)))
    (pssc_cons (psc_set (i := 3) nd rfl (.inl rfl) (pec_newK (keep := false) (c := 5) (i := 5) Z.mk_Tree (ih 5) r1 rfl Z.k_Tree (kb5 Z) (pac_cons (pec_b1 (cv_lenO (T___len__ Z ih) r1) bt_len Z.f_len (pec_var (i := 0) rfl (.inl rfl))) pac_nil) (pkc_cons (pec_var (i := 2) rfl (.inl rfl)) pkc_nil) (alen_cons alen_nil) (alen_cons alen_nil)))
    (pssc_cons (psc_expr (pec_meth (M_check_place Z ih) r0 (pec_var (i := 3) rfl (.inl rfl)) (pac_cons (pec_var (i := 1) rfl (.inl rfl)) pac_nil)))
    (pssc_one (psc_ret (pec_call (f := 46) (di := []) (ih 46) r0 rfl Z.g_lifted Z.d46.kp b46 hd46 (pac_cons (pec_var (i := 0) rfl (.inl rfl)) (pac_cons (pec_var (i := 3) rfl (.inl rfl)) (pac_cons (pec_var (i := 1) rfl (.inl rfl)) pac_nil)))))))))) ?_
  rfl
theorem st49 (Z : Facts K mg fds) (T0 : LamX.TabB base mg (He.codeOf K (fnm 1000)) (faK fnm K 1000)) (ih : ∀ i, FnOk P w K mg base CX0 (6 * n) (faK fnm K i) (fds i) (PS i) (spF ⟨K, faK fnm K, fcK cd K⟩ (callF F n) i)) : FnOk P w K mg base CX0 (6 * (n + 1)) (faK fnm K 49) (fds 49) (PS 49) (spF ⟨K, faK fnm K, fcK cd K⟩ (callF F (n + 1)) 49) := by
  have b3 := bn3 Z
  have hd3 : Vals (dV []) [] := .nil
  have b4 := bn4 Z
  have hd4 : Vals (dV []) [] := .nil
  have b47 := bn47 Z
  have hd47 : Vals (dV []) [] := .nil
  have nd := fs49.nd
  refine fn_ok (G := ⟨K, faK fnm K, fcK cd K⟩) (f := 49) (fc := ⟨3, 4, .fz, c_sift_down W⟩) rfl Z.d49 fs49 rfl rfl (fun cdv A outer s H E hr => ?_)
  have r0 := hr.mono (j := 6 * n) (by omega)
  have r1 := hr.mono (j := 6 * n + 1) (by omega)
  have r3 := hr.mono (j := 6 * n + 3) (by omega)
  have r3a := hr.mono (j := 3) (by omega)
  have r5 := hr.mono (j := 5) (by omega)
  have hu0 := hr.units
  have hu := hr.units65
  refine code_of (pssc_cons (psc_expr (pec_call (f := 3) (di := []) (ih 3) r0 rfl Z.g_check_arms Z.d3.kp b3 hd3 (pac_cons (pec_var (i := 2) rfl (.inl rfl)) pac_nil)))
    (pssc_cons (psc_expr (pec_call (f := 4) (di := []) (ih 4) r0 rfl Z.g_check_row Z.d4.kp b4 hd4 (pac_cons (pec_var (i := 0) rfl (.inl rfl)) pac_nil)))
    (pssc_cons (psc_set (i := 3) nd rfl (.inl rfl) (pec_newK (keep := false) (c := 5) (i := 5) Z.mk_Tree (ih 5) r1 rfl Z.k_Tree (kb5 Z) (pac_cons (pec_b1 (cv_lenO (T___len__ Z ih) r1) bt_len Z.f_len (pec_var (i := 0) rfl (.inl rfl))) pac_nil) (pkc_cons (pec_var (i := 2) rfl (.inl rfl)) pkc_nil) (alen_cons alen_nil) (alen_cons alen_nil)))
    (pssc_cons (psc_expr (pec_meth (M_check_place Z ih) r0 (pec_var (i := 3) rfl (.inl rfl)) (pac_cons (pec_var (i := 1) rfl (.inl rfl)) pac_nil)))
    (pssc_one (psc_ret (pec_call (f := 47) (di := []) (ih 47) r0 rfl Z.g_sunk Z.d47.kp b47 hd47 (pac_cons (pec_var (i := 0) rfl (.inl rfl)) (pac_cons (pec_var (i := 3) rfl (.inl rfl)) (pac_cons (pec_var (i := 1) rfl (.inl rfl)) pac_nil)))))))))) ?_
  rfl
theorem st69 (Z : Facts K mg fds) (T0 : LamX.TabB base mg (He.codeOf K (fnm 1000)) (faK fnm K 1000)) (ih : ∀ i, FnOk P w K mg base CX0 (6 * n) (faK fnm K i) (fds i) (PS i) (spF ⟨K, faK fnm K, fcK cd K⟩ (callF F n) i)) : FnOk P w K mg base CX0 (6 * (n + 1)) (faK fnm K 69) (fds 69) (PS 69) (spF ⟨K, faK fnm K, fcK cd K⟩ (callF F (n + 1)) 69) := by
  have nd := fs69.nd
  refine fn_ok (G := ⟨K, faK fnm K, fcK cd K⟩) (f := 69) (fc := ⟨5, 5, .fz, c_Built___init__ W⟩) rfl Z.d69 fs69 rfl rfl (fun cdv A outer s H E hr => ?_)
  have r0 := hr.mono (j := 6 * n) (by omega)
  have r1 := hr.mono (j := 6 * n + 1) (by omega)
  have r3 := hr.mono (j := 6 * n + 3) (by omega)
  have r3a := hr.mono (j := 3) (by omega)
  have r5 := hr.mono (j := 5) (by omega)
  have hu0 := hr.units
  have hu := hr.units65
  refine code_of (pssc_cons (psc_fld (S_row Z) (pec_var (i := 0) rfl (.inl rfl)) (pec_t1 (cv_tuple _ _) bt_tuple Z.f_tuple (pec_var (i := 1) rfl (.inl rfl))))
    (pssc_cons (psc_fld (S_stops Z) (pec_var (i := 0) rfl (.inl rfl)) (pec_t1 (cv_tuple _ _) bt_tuple Z.f_tuple (pec_var (i := 2) rfl (.inl rfl))))
    (pssc_cons (psc_fld (S_changes Z) (pec_var (i := 0) rfl (.inl rfl)) (pec_var (i := 3) rfl (.inl rfl)))
    (pssc_one (psc_fld (S_looks Z) (pec_var (i := 0) rfl (.inl rfl)) (pec_var (i := 4) rfl (.inl rfl))))))) ?_
  rfl
theorem st70 (Z : Facts K mg fds) (T0 : LamX.TabB base mg (He.codeOf K (fnm 1000)) (faK fnm K 1000)) (ih : ∀ i, FnOk P w K mg base CX0 (6 * n) (faK fnm K i) (fds i) (PS i) (spF ⟨K, faK fnm K, fcK cd K⟩ (callF F n) i)) : FnOk P w K mg base CX0 (6 * (n + 1)) (faK fnm K 70) (fds 70) (PS 70) (spF ⟨K, faK fnm K, fcK cd K⟩ (callF F (n + 1)) 70) := by
  have nd := fs70.nd
  refine fn_ok (G := ⟨K, faK fnm K, fcK cd K⟩) (f := 70) (fc := ⟨2, 2, .fz, c_Built___eq__ W⟩) rfl Z.d70 fs70 rfl rfl (fun cdv A outer s H E hr => ?_)
  have r0 := hr.mono (j := 6 * n) (by omega)
  have r1 := hr.mono (j := 6 * n + 1) (by omega)
  have r3 := hr.mono (j := 6 * n + 3) (by omega)
  have r3a := hr.mono (j := 3) (by omega)
  have r5 := hr.mono (j := 5) (by omega)
  have hu0 := hr.units
  have hu := hr.units65
  refine code_of (pssc_one (psc_ret (pec_and (pec_b2 (cv_isiC (isiC_of Z.chk)) bt_isinstance Z.f_isinstance (pec_var (i := 1) rfl (.inl rfl)) (pec_cls (c := 11) rfl Z.k_Built)) (pec_one (pec_cmp (ov_eqO hu (T___eq__ Z ih) r0) (pec_meth0 (M_all_parts Z ih) r0 (pec_var (i := 0) rfl (.inl rfl))) (pec_meth0 (M_all_parts Z ih) r0 (pec_var (i := 1) rfl (.inl rfl))) rfl))))) ?_
  rfl
theorem st71 (Z : Facts K mg fds) (T0 : LamX.TabB base mg (He.codeOf K (fnm 1000)) (faK fnm K 1000)) (ih : ∀ i, FnOk P w K mg base CX0 (6 * n) (faK fnm K i) (fds i) (PS i) (spF ⟨K, faK fnm K, fcK cd K⟩ (callF F n) i)) : FnOk P w K mg base CX0 (6 * (n + 1)) (faK fnm K 71) (fds 71) (PS 71) (spF ⟨K, faK fnm K, fcK cd K⟩ (callF F (n + 1)) 71) := by
  have nd := fs71.nd
  refine fn_ok (G := ⟨K, faK fnm K, fcK cd K⟩) (f := 71) (fc := ⟨1, 1, .fz, c_Built_all_parts W⟩) rfl Z.d71 fs71 rfl rfl (fun cdv A outer s H E hr => ?_)
  have r0 := hr.mono (j := 6 * n) (by omega)
  have r1 := hr.mono (j := 6 * n + 1) (by omega)
  have r3 := hr.mono (j := 6 * n + 3) (by omega)
  have r3a := hr.mono (j := 3) (by omega)
  have r5 := hr.mono (j := 5) (by omega)
  have hu0 := hr.units
  have hu := hr.units65
  refine code_of (pssc_one (psc_ret (pec_lstM (pac_cons (pec_fld (S_row Z) (pec_var (i := 0) rfl (.inl rfl))) (pac_cons (pec_fld (S_stops Z) (pec_var (i := 0) rfl (.inl rfl))) (pac_cons (pec_fld (S_changes Z) (pec_var (i := 0) rfl (.inl rfl))) (pac_cons (pec_fld (S_looks Z) (pec_var (i := 0) rfl (.inl rfl))) pac_nil))))))) ?_
  rfl
theorem st72 (Z : Facts K mg fds) (T0 : LamX.TabB base mg (He.codeOf K (fnm 1000)) (faK fnm K 1000)) (ih : ∀ i, FnOk P w K mg base CX0 (6 * n) (faK fnm K i) (fds i) (PS i) (spF ⟨K, faK fnm K, fcK cd K⟩ (callF F n) i)) : FnOk P w K mg base CX0 (6 * (n + 1)) (faK fnm K 72) (fds 72) (PS 72) (spF ⟨K, faK fnm K, fcK cd K⟩ (callF F (n + 1)) 72) := by
  have nd := fs72.nd
  refine fn_ok (G := ⟨K, faK fnm K, fcK cd K⟩) (f := 72) (fc := ⟨1, 2, .fz, c_parents_of W⟩) rfl Z.d72 fs72 rfl rfl (fun cdv A outer s H E hr => ?_)
  have r0 := hr.mono (j := 6 * n) (by omega)
  have r1 := hr.mono (j := 6 * n + 1) (by omega)
  have r3 := hr.mono (j := 6 * n + 3) (by omega)
  have r3a := hr.mono (j := 3) (by omega)
  have r5 := hr.mono (j := 5) (by omega)
  have hu0 := hr.units
  have hu := hr.units65
  refine code_of (pssc_one (psc_ret (pec_revM (pec_lc kLst_k rfl nd (pic_own (T___iter__ Z) r3a (pec_var (i := 0) rfl (.inr (.inl rfl)))) bk72_0 (tg_name (by decide)) (fun _ _ _ _ _ => pg_name (i := 1) nd rfl (.inl rfl)) (fun _ _ _ _ _ => ptsc_one (ptc_cmp (ov_neO hu (T___eq__ Z ih) r1) (pec_ixO (T___getitem__ Z ih) r1 (pec_var (i := 0) rfl (.inr (.inl rfl))) (pec_var (i := 1) rfl (.inl rfl))) (pec_tup pac_nil) rfl)) (fun _ _ _ _ _ => pec_var (i := 1) rfl (.inl rfl)))))) ?_
  rfl
theorem st73 (Z : Facts K mg fds) (T0 : LamX.TabB base mg (He.codeOf K (fnm 1000)) (faK fnm K 1000)) (ih : ∀ i, FnOk P w K mg base CX0 (6 * n) (faK fnm K i) (fds i) (PS i) (spF ⟨K, faK fnm K, fcK cd K⟩ (callF F n) i)) : FnOk P w K mg base CX0 (6 * (n + 1)) (faK fnm K 73) (fds 73) (PS 73) (spF ⟨K, faK fnm K, fcK cd K⟩ (callF F (n + 1)) 73) := by
  have b47 := bn47 Z
  have hd47 : Vals (dV []) [] := .nil
  have b69 := bn69 Z
  have hd69 : Vals (dV []) [] := .nil
  have b72 := bn72 Z
  have hd72 : Vals (dV []) [] := .nil
  have nd := fs73.nd
  refine fn_ok (G := ⟨K, faK fnm K, fcK cd K⟩) (f := 73) (fc := ⟨2, 7, .fz, c_built W⟩) rfl Z.d73 fs73 rfl rfl (fun cdv A outer s H E hr => ?_)
  have r0 := hr.mono (j := 6 * n) (by omega)
  have r1 := hr.mono (j := 6 * n + 1) (by omega)
  have r3 := hr.mono (j := 6 * n + 3) (by omega)
  have r3a := hr.mono (j := 3) (by omega)
  have r5 := hr.mono (j := 5) (by omega)
  have hu0 := hr.units
  have hu := hr.units65
  refine code_of (pssc_cons (psc_par3 (i := 2) (j := 3) (l := 4) nd (pac_cons (pec_lstM pac_nil) (pac_cons pec_int (pac_cons pec_int pac_nil))))
    (pssc_cons (psc_for (n := 100000) PassesOwn.never rfl (pic_own (T___iter__ Z) r3a (pec_call (f := 72) (di := []) (ih 72) r0 rfl Z.g_parents_of Z.d72.kp b72 hd72 (pac_cons (pec_var (i := 1) rfl (.inl rfl)) pac_nil))) (pgc_name (i := 5) nd rfl (.inl rfl)) (pssc_cons (psc_set (i := 6) nd rfl (.inl rfl) (pec_call (f := 47) (di := []) (ih 47) r0 rfl Z.g_sunk Z.d47.kp b47 hd47 (pac_cons (pec_var (i := 0) rfl (.inl rfl)) (pac_cons (pec_var (i := 1) rfl (.inl rfl)) (pac_cons (pec_var (i := 5) rfl (.inl rfl)) pac_nil)))))
    (pssc_cons (psc_par (i := 0) (j := 4) nd (pac_cons (pec_fld (S_row Z) (pec_var (i := 6) rfl (.inl rfl))) (pac_cons (pec_bin (ov_add _ _) (pec_var (i := 4) rfl (.inl rfl)) (pec_fld (S_looks Z) (pec_var (i := 6) rfl (.inl rfl)))) pac_nil)))
    (pssc_cons (psc_expr (pec_ml F.slot_list_append F.type_list_append mv_append (pec_var (i := 2) rfl (.inl rfl)) (pac_cons (pec_tup (pac_cons (pec_var (i := 5) rfl (.inl rfl)) (pac_cons (pec_ixO (T___getitem__ Z ih) r1 (pec_fld (S_way Z) (pec_var (i := 6) rfl (.inl rfl))) (pec_un ov_neg pec_int)) pac_nil))) pac_nil)))
    (pssc_one (psc_aug (i := 3) nd rfl (.inl rfl) (pec_bin ov_sub (pec_b1 (cv_lenO (T___len__ Z ih) r1) bt_len Z.f_len (pec_fld (S_way Z) (pec_var (i := 6) rfl (.inl rfl)))) pec_int) ip_add))))))
    (pssc_one (psc_ret (pec_new (keep := false) (c := 11) (i := 69) (di := []) Z.mk_Built (ih 69) r1 rfl Z.k_Built b69 hd69 (pac_cons (pec_var (i := 0) rfl (.inl rfl)) (pac_cons (pec_var (i := 2) rfl (.inl rfl)) (pac_cons (pec_var (i := 3) rfl (.inl rfl)) (pac_cons (pec_var (i := 4) rfl (.inl rfl)) pac_nil))))))))) ?_
  rfl
theorem st57 (Z : Facts K mg fds) (T0 : LamX.TabB base mg (He.codeOf K (fnm 1000)) (faK fnm K 1000)) (ih : ∀ i, FnOk P w K mg base CX0 (6 * n) (faK fnm K i) (fds i) (PS i) (spF ⟨K, faK fnm K, fcK cd K⟩ (callF F n) i)) : FnOk P w K mg base CX0 (6 * (n + 1)) (faK fnm K 57) (fds 57) (PS 57) (spF ⟨K, faK fnm K, fcK cd K⟩ (callF F (n + 1)) 57) := by
  have nd := fs57.nd
  refine fn_ok (G := ⟨K, faK fnm K, fcK cd K⟩) (f := 57) (fc := ⟨1, 1, .fz, c_without_last W⟩) rfl Z.d57 fs57 rfl rfl (fun cdv A outer s H E hr => ?_)
  have r0 := hr.mono (j := 6 * n) (by omega)
  have r1 := hr.mono (j := 6 * n + 1) (by omega)
  have r3 := hr.mono (j := 6 * n + 3) (by omega)
  have r3a := hr.mono (j := 3) (by omega)
  have r5 := hr.mono (j := 5) (by omega)
  have hu0 := hr.units
  have hu := hr.units65
  refine code_of (pssc_one (psc_ret (pec_if (ptc_cmp ov_gt (pec_b1 (cv_lenO (T___len__ Z ih) r1) bt_len Z.f_len (pec_var (i := 0) rfl (.inl rfl))) pec_int rfl) (pec_lst (pac_cons (pec_ixO (T___getitem__ Z ih) r1 (pec_var (i := 0) rfl (.inl rfl)) (pec_un ov_neg pec_int)) (pac_star (pec_slice (sv_sl _ _) (fun _ _ _ _ _ _ h => vSl_parts h) (pec_var (i := 0) rfl (.inl rfl)) (poc_e pec_int) (poc_e (pec_un ov_neg pec_int))) pac_nil))) (pec_lst pac_nil)))) ?_
  rfl
theorem st58 (Z : Facts K mg fds) (T0 : LamX.TabB base mg (He.codeOf K (fnm 1000)) (faK fnm K 1000)) (ih : ∀ i, FnOk P w K mg base CX0 (6 * n) (faK fnm K i) (fds i) (PS i) (spF ⟨K, faK fnm K, fcK cd K⟩ (callF F n) i)) : FnOk P w K mg base CX0 (6 * (n + 1)) (faK fnm K 58) (fds 58) (PS 58) (spF ⟨K, faK fnm K, fcK cd K⟩ (callF F (n + 1)) 58) := by
  have b40 := bn40 Z
  have hd40 : Vals (dV []) [] := .nil
  have b47 := bn47 Z
  have hd47 : Vals (dV []) [] := .nil
  have b57 := bn57 Z
  have hd57 : Vals (dV []) [] := .nil
  have nd := fs58.nd
  refine fn_ok (G := ⟨K, faK fnm K, fcK cd K⟩) (f := 58) (fc := ⟨2, 3, .fz, c_taken W⟩) rfl Z.d58 fs58 rfl rfl (fun cdv A outer s H E hr => ?_)
  have r0 := hr.mono (j := 6 * n) (by omega)
  have r1 := hr.mono (j := 6 * n + 1) (by omega)
  have r3 := hr.mono (j := 6 * n + 3) (by omega)
  have r3a := hr.mono (j := 3) (by omega)
  have r5 := hr.mono (j := 5) (by omega)
  have hu0 := hr.units
  have hu := hr.units65
  refine code_of (pssc_cons (psc_set (i := 2) nd rfl (.inl rfl) (pec_call (f := 57) (di := []) (ih 57) r0 rfl Z.g_without_last Z.d57.kp b57 hd57 (pac_cons (pec_var (i := 0) rfl (.inl rfl)) pac_nil)))
    (pssc_one (psc_ret (pec_if (ptc_cmp (ov_neO hu (T___eq__ Z ih) r1) (pec_var (i := 2) rfl (.inl rfl)) (pec_lst pac_nil) rfl) (pec_call (f := 47) (di := []) (ih 47) r0 rfl Z.g_sunk Z.d47.kp b47 hd47 (pac_cons (pec_var (i := 2) rfl (.inl rfl)) (pac_cons (pec_newK (keep := false) (c := 5) (i := 5) Z.mk_Tree (ih 5) r1 rfl Z.k_Tree (kb5 Z) (pac_cons (pec_b1 (cv_lenO (T___len__ Z ih) r1) bt_len Z.f_len (pec_var (i := 2) rfl (.inl rfl))) pac_nil) (pkc_cons (pec_var (i := 1) rfl (.inl rfl)) pkc_nil) (alen_cons alen_nil) (alen_cons alen_nil)) (pac_cons pec_int pac_nil)))) (pec_new (keep := false) (c := 6) (i := 40) (di := []) Z.mk_Sift (ih 40) r1 rfl Z.k_Sift b40 hd40 (pac_cons (pec_tup pac_nil) (pac_cons (pec_tup pac_nil) (pac_cons pec_int pac_nil)))))))) ?_
  rfl
theorem st60 (Z : Facts K mg fds) (T0 : LamX.TabB base mg (He.codeOf K (fnm 1000)) (faK fnm K 1000)) (ih : ∀ i, FnOk P w K mg base CX0 (6 * n) (faK fnm K i) (fds i) (PS i) (spF ⟨K, faK fnm K, fcK cd K⟩ (callF F n) i)) : FnOk P w K mg base CX0 (6 * (n + 1)) (faK fnm K 60) (fds 60) (PS 60) (spF ⟨K, faK fnm K, fcK cd K⟩ (callF F (n + 1)) 60) := by
  have b2 := bn2 Z
  have hd2 : Vals (dV []) [] := .nil
  have b55 := bn55 Z
  have hd55 : Vals (dV []) [] := .nil
  have nd := fs60.nd
  refine fn_ok (G := ⟨K, faK fnm K, fcK cd K⟩) (f := 60) (fc := ⟨3, 3, .fz, c_check_full W⟩) rfl Z.d60 fs60 rfl rfl (fun cdv A outer s H E hr => ?_)
  have r0 := hr.mono (j := 6 * n) (by omega)
  have r1 := hr.mono (j := 6 * n + 1) (by omega)
  have r3 := hr.mono (j := 6 * n + 3) (by omega)
  have r3a := hr.mono (j := 3) (by omega)
  have r5 := hr.mono (j := 5) (by omega)
  have hu0 := hr.units
  have hu := hr.units65
  refine code_of (pssc_cons (psc_expr (pec_call (f := 55) (di := []) (ih 55) r0 rfl Z.g_check_heap Z.d55.kp b55 hd55 (pac_cons (pec_var (i := 0) rfl (.inl rfl)) (pac_cons (pec_var (i := 2) rfl (.inl rfl)) pac_nil))))
    (pssc_one (psc_if (ptc_not (ptc_val (pec_call (f := 2) (di := []) (ih 2) r0 rfl Z.g_is_key Z.d2.kp b2 hd2 (pac_cons (pec_var (i := 1) rfl (.inl rfl)) pac_nil)))) (pssc_one psc_never) pssc_nil))) ?_
  rfl
theorem st61 (Z : Facts K mg fds) (T0 : LamX.TabB base mg (He.codeOf K (fnm 1000)) (faK fnm K 1000)) (ih : ∀ i, FnOk P w K mg base CX0 (6 * n) (faK fnm K i) (fds i) (PS i) (spF ⟨K, faK fnm K, fcK cd K⟩ (callF F n) i)) : FnOk P w K mg base CX0 (6 * (n + 1)) (faK fnm K 61) (fds 61) (PS 61) (spF ⟨K, faK fnm K, fcK cd K⟩ (callF F (n + 1)) 61) := by
  obtain ⟨_, i_MOST_PLACES⟩ := Z.i_MOST_PLACES
  have b46 := bn46 Z
  have hd46 : Vals (dV []) [] := .nil
  have b60 := bn60 Z
  have hd60 : Vals (dV []) [] := .nil
  have nd := fs61.nd
  refine fn_ok (G := ⟨K, faK fnm K, fcK cd K⟩) (f := 61) (fc := ⟨3, 3, .fz, c_push W⟩) rfl Z.d61 fs61 rfl rfl (fun cdv A outer s H E hr => ?_)
  have r0 := hr.mono (j := 6 * n) (by omega)
  have r1 := hr.mono (j := 6 * n + 1) (by omega)
  have r3 := hr.mono (j := 6 * n + 3) (by omega)
  have r3a := hr.mono (j := 3) (by omega)
  have r5 := hr.mono (j := 5) (by omega)
  have hu0 := hr.units
  have hu := hr.units65
  refine code_of (pssc_cons (psc_expr (pec_call (f := 60) (di := []) (ih 60) r0 rfl Z.g_check_full Z.d60.kp b60 hd60 (pac_cons (pec_var (i := 0) rfl (.inl rfl)) (pac_cons (pec_var (i := 1) rfl (.inl rfl)) (pac_cons (pec_var (i := 2) rfl (.inl rfl)) pac_nil)))))
    (pssc_cons (psc_if (ptc_cmp (ov_eqO hu (T___eq__ Z ih) r0) (pec_b1 (cv_lenO (T___len__ Z ih) r1) bt_len Z.f_len (pec_var (i := 0) rfl (.inl rfl))) (pec_gint rfl i_MOST_PLACES) rfl) (pssc_one psc_never) pssc_nil)
    (pssc_one (psc_ret (pec_call (f := 46) (di := []) (ih 46) r0 rfl Z.g_lifted Z.d46.kp b46 hd46 (pac_cons (pec_lst (pac_star (pec_var (i := 0) rfl (.inl rfl)) (pac_cons (pec_var (i := 1) rfl (.inl rfl)) pac_nil))) (pac_cons (pec_newK (keep := false) (c := 5) (i := 5) Z.mk_Tree (ih 5) r1 rfl Z.k_Tree (kb5 Z) (pac_cons (pec_bin (ov_add _ _) (pec_b1 (cv_lenO (T___len__ Z ih) r1) bt_len Z.f_len (pec_var (i := 0) rfl (.inl rfl))) pec_int) pac_nil) (pkc_cons (pec_var (i := 2) rfl (.inl rfl)) pkc_nil) (alen_cons alen_nil) (alen_cons alen_nil)) (pac_cons (pec_b1 (cv_lenO (T___len__ Z ih) r1) bt_len Z.f_len (pec_var (i := 0) rfl (.inl rfl))) pac_nil)))))))) ?_
  rfl
theorem st62 (Z : Facts K mg fds) (T0 : LamX.TabB base mg (He.codeOf K (fnm 1000)) (faK fnm K 1000)) (ih : ∀ i, FnOk P w K mg base CX0 (6 * n) (faK fnm K i) (fds i) (PS i) (spF ⟨K, faK fnm K, fcK cd K⟩ (callF F n) i)) : FnOk P w K mg base CX0 (6 * (n + 1)) (faK fnm K 62) (fds 62) (PS 62) (spF ⟨K, faK fnm K, fcK cd K⟩ (callF F (n + 1)) 62) := by
  have b55 := bn55 Z
  have hd55 : Vals (dV []) [] := .nil
  have b58 := bn58 Z
  have hd58 : Vals (dV []) [] := .nil
  have nd := fs62.nd
  refine fn_ok (G := ⟨K, faK fnm K, fcK cd K⟩) (f := 62) (fc := ⟨2, 2, .fz, c_take W⟩) rfl Z.d62 fs62 rfl rfl (fun cdv A outer s H E hr => ?_)
  have r0 := hr.mono (j := 6 * n) (by omega)
  have r1 := hr.mono (j := 6 * n + 1) (by omega)
  have r3 := hr.mono (j := 6 * n + 3) (by omega)
  have r3a := hr.mono (j := 3) (by omega)
  have r5 := hr.mono (j := 5) (by omega)
  have hu0 := hr.units
  have hu := hr.units65
  refine code_of (pssc_cons (psc_expr (pec_call (f := 55) (di := []) (ih 55) r0 rfl Z.g_check_heap Z.d55.kp b55 hd55 (pac_cons (pec_var (i := 0) rfl (.inl rfl)) (pac_cons (pec_var (i := 1) rfl (.inl rfl)) pac_nil))))
    (pssc_cons (psc_if (ptc_cmp (ov_eqO hu (T___eq__ Z ih) r0) (pec_b1 (cv_lenO (T___len__ Z ih) r1) bt_len Z.f_len (pec_var (i := 0) rfl (.inl rfl))) pec_int rfl) (pssc_one psc_never) pssc_nil)
    (pssc_one (psc_ret (pec_tup (pac_cons (pec_ixO (T___getitem__ Z ih) r1 (pec_var (i := 0) rfl (.inl rfl)) pec_int) (pac_cons (pec_call (f := 58) (di := []) (ih 58) r0 rfl Z.g_taken Z.d58.kp b58 hd58 (pac_cons (pec_var (i := 0) rfl (.inl rfl)) (pac_cons (pec_var (i := 1) rfl (.inl rfl)) pac_nil))) pac_nil))))))) ?_
  rfl
theorem st74 (Z : Facts K mg fds) (T0 : LamX.TabB base mg (He.codeOf K (fnm 1000)) (faK fnm K 1000)) (ih : ∀ i, FnOk P w K mg base CX0 (6 * n) (faK fnm K i) (fds i) (PS i) (spF ⟨K, faK fnm K, fcK cd K⟩ (callF F n) i)) : FnOk P w K mg base CX0 (6 * (n + 1)) (faK fnm K 74) (fds 74) (PS 74) (spF ⟨K, faK fnm K, fcK cd K⟩ (callF F (n + 1)) 74) := by
  have b3 := bn3 Z
  have hd3 : Vals (dV []) [] := .nil
  have b4 := bn4 Z
  have hd4 : Vals (dV []) [] := .nil
  have b73 := bn73 Z
  have hd73 : Vals (dV []) [] := .nil
  have nd := fs74.nd
  refine fn_ok (G := ⟨K, faK fnm K, fcK cd K⟩) (f := 74) (fc := ⟨2, 2, .fz, c_build W⟩) rfl Z.d74 fs74 rfl rfl (fun cdv A outer s H E hr => ?_)
  have r0 := hr.mono (j := 6 * n) (by omega)
  have r1 := hr.mono (j := 6 * n + 1) (by omega)
  have r3 := hr.mono (j := 6 * n + 3) (by omega)
  have r3a := hr.mono (j := 3) (by omega)
  have r5 := hr.mono (j := 5) (by omega)
  have hu0 := hr.units
  have hu := hr.units65
  refine code_of (pssc_cons (psc_expr (pec_call (f := 3) (di := []) (ih 3) r0 rfl Z.g_check_arms Z.d3.kp b3 hd3 (pac_cons (pec_var (i := 1) rfl (.inl rfl)) pac_nil)))
    (pssc_cons (psc_expr (pec_call (f := 4) (di := []) (ih 4) r0 rfl Z.g_check_row Z.d4.kp b4 hd4 (pac_cons (pec_var (i := 0) rfl (.inl rfl)) pac_nil)))
    (pssc_one (psc_ret (pec_call (f := 73) (di := []) (ih 73) r0 rfl Z.g_built Z.d73.kp b73 hd73 (pac_cons (pec_var (i := 0) rfl (.inl rfl)) (pac_cons (pec_newK (keep := false) (c := 5) (i := 5) Z.mk_Tree (ih 5) r1 rfl Z.k_Tree (kb5 Z) (pac_cons (pec_b1 (cv_lenO (T___len__ Z ih) r1) bt_len Z.f_len (pec_var (i := 0) rfl (.inl rfl))) pac_nil) (pkc_cons (pec_var (i := 1) rfl (.inl rfl)) pkc_nil) (alen_cons alen_nil) (alen_cons alen_nil)) pac_nil))))))) ?_
  rfl
theorem st19 (Z : Facts K mg fds) (T0 : LamX.TabB base mg (He.codeOf K (fnm 1000)) (faK fnm K 1000)) (ih : ∀ i, FnOk P w K mg base CX0 (6 * n) (faK fnm K i) (fds i) (PS i) (spF ⟨K, faK fnm K, fcK cd K⟩ (callF F n) i)) : FnOk P w K mg base CX0 (6 * (n + 1)) (faK fnm K 19) (fds 19) (PS 19) (spF ⟨K, faK fnm K, fcK cd K⟩ (callF F (n + 1)) 19) := by
  have nd := fs19.nd
  refine fn_ok (G := ⟨K, faK fnm K, fcK cd K⟩) (f := 19) (fc := ⟨2, 8, .fz, c__law_number W⟩) rfl Z.d19 fs19 rfl rfl (fun cdv A outer s H E hr => ?_)
  have r0 := hr.mono (j := 6 * n) (by omega)
  have r1 := hr.mono (j := 6 * n + 1) (by omega)
  have r3 := hr.mono (j := 6 * n + 3) (by omega)
  have r3a := hr.mono (j := 3) (by omega)
  have r5 := hr.mono (j := 5) (by omega)
  have hu0 := hr.units
  have hu := hr.units65
  refine code_of (pssc_cons (psc_set (i := 2) nd rfl (.inl rfl) (pec_if (ptc_cmp (ov_neO hu (T___eq__ Z ih) r1) (pec_var (i := 0) rfl (.inl rfl)) (pec_lst pac_nil) rfl) (pec_slice (sv_sl _ _) (fun _ _ _ _ _ _ h => vSl_parts h) (pec_var (i := 0) rfl (.inl rfl)) poc_none (poc_e pec_int)) (pec_lst (pac_cons pec_int pac_nil))))
    (pssc_cons (psc_set (i := 3) nd rfl (.inl rfl) (pec_bin (ov_add _ _) (pec_ixO (T___getitem__ Z ih) r1 (pec_var (i := 2) rfl (.inl rfl)) (pec_bin ov_mod (pec_t1 cv_intB bt_int Z.f_int (pec_var (i := 1) rfl (.inl rfl))) (pec_b1 (cv_lenO (T___len__ Z ih) r1) bt_len Z.f_len (pec_var (i := 2) rfl (.inl rfl))))) (pec_bin ov_mul pec_int (pec_bin ov_fdiv (pec_var (i := 1) rfl (.inl rfl)) (pec_b1 (cv_lenO (T___len__ Z ih) r1) bt_len Z.f_len (pec_var (i := 2) rfl (.inl rfl)))))))
    (pssc_cons (psc_par (i := 4) (j := 5) nd (pac_cons (pec_bin ov_mod (pec_t1 cv_intB bt_int Z.f_int (pec_var (i := 3) rfl (.inl rfl))) pec_int) (pac_cons (pec_bin ov_mod (pec_t1 cv_intB bt_int Z.f_int (pec_bin ov_fdiv (pec_var (i := 3) rfl (.inl rfl)) pec_int)) pec_int) pac_nil)))
    (pssc_cons (psc_set (i := 6) nd rfl (.inl rfl) (pec_bin ov_mod (pec_t1 cv_intB bt_int Z.f_int (pec_b1 (cv_sum rfl _ _) bt_sum Z.f_sum (pec_var (i := 2) rfl (.inl rfl)))) pec_int))
    (pssc_cons (psc_set (i := 7) nd rfl (.inl rfl) (pec_bin ov_mod (pec_t1 cv_intB bt_int Z.f_int (pec_bin (ov_add _ _) (pec_bin (ov_add _ _) (pec_bin ov_mul (pec_bin (ov_add _ _) (pec_var (i := 4) rfl (.inl rfl)) (pec_bin ov_mul pec_int (pec_var (i := 1) rfl (.inl rfl)))) pec_int) (pec_bin ov_mul pec_int (pec_var (i := 5) rfl (.inl rfl)))) (pec_var (i := 6) rfl (.inl rfl)))) pec_int))
    (pssc_one (psc_ret (pec_bin (ov_addM _ _) (pec_bin ov_mul (pec_bin ov_mod (pec_t1 cv_intB bt_int Z.f_int (pec_bin ov_mul (pec_var (i := 7) rfl (.inl rfl)) (pec_bin (ov_add _ _) (pec_bin (ov_add _ _) (pec_var (i := 7) rfl (.inl rfl)) (pec_bin ov_mul pec_int (pec_var (i := 1) rfl (.inl rfl)))) pec_int))) pec_int) pec_int) (pec_var (i := 5) rfl (.inl rfl)))))))))) ?_
  rfl
theorem st20 (Z : Facts K mg fds) (T0 : LamX.TabB base mg (He.codeOf K (fnm 1000)) (faK fnm K 1000)) (ih : ∀ i, FnOk P w K mg base CX0 (6 * n) (faK fnm K i) (fds i) (PS i) (spF ⟨K, faK fnm K, fcK cd K⟩ (callF F n) i)) : FnOk P w K mg base CX0 (6 * (n + 1)) (faK fnm K 20) (fds 20) (PS 20) (spF ⟨K, faK fnm K, fcK cd K⟩ (callF F (n + 1)) 20) := by
  have b19 := bn19 Z
  have hd19 : Vals (dV []) [] := .nil
  have nd := fs20.nd
  refine fn_ok (G := ⟨K, faK fnm K, fcK cd K⟩) (f := 20) (fc := ⟨2, 2, .fz, c__law_take W⟩) rfl Z.d20 fs20 rfl rfl (fun cdv A outer s H E hr => ?_)
  have r0 := hr.mono (j := 6 * n) (by omega)
  have r1 := hr.mono (j := 6 * n + 1) (by omega)
  have r3 := hr.mono (j := 6 * n + 3) (by omega)
  have r3a := hr.mono (j := 3) (by omega)
  have r5 := hr.mono (j := 5) (by omega)
  have hu0 := hr.units
  have hu := hr.units65
  refine code_of (pssc_cons (psc_asg (pec_bin (ov_addM _ _) (pec_ixO (T___getitem__ Z ih) r1 (pec_var (i := 0) rfl (.inl rfl)) pec_int) pec_int) (pgc_sub (pec_var (i := 0) rfl (.inl rfl)) pec_int))
    (pssc_one (psc_ret (pec_bin ov_mod (pec_t1 cv_intB bt_int Z.f_int (pec_call (f := 19) (di := []) (ih 19) r0 rfl Z.g__law_number Z.d19.kp b19 hd19 (pac_cons (pec_ixO (T___getitem__ Z ih) r1 (pec_var (i := 0) rfl (.inl rfl)) pec_int) (pac_cons (pec_t1 cv_intB bt_int Z.f_int (pec_ixO (T___getitem__ Z ih) r1 (pec_var (i := 0) rfl (.inl rfl)) pec_int)) pac_nil)))) (pec_var (i := 1) rfl (.inl rfl)))))) ?_
  rfl
theorem st34 (Z : Facts K mg fds) (T0 : LamX.TabB base mg (He.codeOf K (fnm 1000)) (faK fnm K 1000)) (ih : ∀ i, FnOk P w K mg base CX0 (6 * n) (faK fnm K i) (fds i) (PS i) (spF ⟨K, faK fnm K, fcK cd K⟩ (callF F n) i)) : FnOk P w K mg base CX0 (6 * (n + 1)) (faK fnm K 34) (fds 34) (PS 34) (spF ⟨K, faK fnm K, fcK cd K⟩ (callF F (n + 1)) 34) := by
  have b20 := bn20 Z
  have hd20 : Vals (dV []) [] := .nil
  have nd := fs34.nd
  refine fn_ok (G := ⟨K, faK fnm K, fcK cd K⟩) (f := 34) (fc := ⟨2, 2, .fz, c__law_pick W⟩) rfl Z.d34 fs34 rfl rfl (fun cdv A outer s H E hr => ?_)
  have r0 := hr.mono (j := 6 * n) (by omega)
  have r1 := hr.mono (j := 6 * n + 1) (by omega)
  have r3 := hr.mono (j := 6 * n + 3) (by omega)
  have r3a := hr.mono (j := 3) (by omega)
  have r5 := hr.mono (j := 5) (by omega)
  have hu0 := hr.units
  have hu := hr.units65
  refine code_of (pssc_one (psc_ret (pec_ixO (T___getitem__ Z ih) r1 (pec_var (i := 1) rfl (.inl rfl)) (pec_call (f := 20) (di := []) (ih 20) r0 rfl Z.g__law_take Z.d20.kp b20 hd20 (pac_cons (pec_var (i := 0) rfl (.inl rfl)) (pac_cons (pec_b1 (cv_lenO (T___len__ Z ih) r1) bt_len Z.f_len (pec_var (i := 1) rfl (.inl rfl))) pac_nil)))))) ?_
  rfl
theorem st35 (Z : Facts K mg fds) (T0 : LamX.TabB base mg (He.codeOf K (fnm 1000)) (faK fnm K 1000)) (ih : ∀ i, FnOk P w K mg base CX0 (6 * n) (faK fnm K i) (fds i) (PS i) (spF ⟨K, faK fnm K, fcK cd K⟩ (callF F n) i)) : FnOk P w K mg base CX0 (6 * (n + 1)) (faK fnm K 35) (fds 35) (PS 35) (spF ⟨K, faK fnm K, fcK cd K⟩ (callF F (n + 1)) 35) := by
  have b34 := bn34 Z
  have hd34 : Vals (dV []) [] := .nil
  have nd := fs35.nd
  refine fn_ok (G := ⟨K, faK fnm K, fcK cd K⟩) (f := 35) (fc := ⟨1, 1, .fz, c__law_arms W⟩) rfl Z.d35 fs35 rfl rfl (fun cdv A outer s H E hr => ?_)
  have r0 := hr.mono (j := 6 * n) (by omega)
  have r1 := hr.mono (j := 6 * n + 1) (by omega)
  have r3 := hr.mono (j := 6 * n + 3) (by omega)
  have r3a := hr.mono (j := 3) (by omega)
  have r5 := hr.mono (j := 5) (by omega)
  have hu0 := hr.units
  have hu := hr.units65
  refine code_of (pssc_one (psc_ret (pec_call (f := 34) (di := []) (ih 34) r0 rfl Z.g__law_pick Z.d34.kp b34 hd34 (pac_cons (pec_var (i := 0) rfl (.inl rfl)) (pac_cons (pec_lst (pac_cons pec_int (pac_cons pec_int (pac_cons pec_int (pac_cons pec_int (pac_cons pec_int (pac_cons pec_int pac_nil))))))) pac_nil))))) ?_
  rfl
theorem st25 (Z : Facts K mg fds) (T0 : LamX.TabB base mg (He.codeOf K (fnm 1000)) (faK fnm K 1000)) (ih : ∀ i, FnOk P w K mg base CX0 (6 * n) (faK fnm K i) (fds i) (PS i) (spF ⟨K, faK fnm K, fcK cd K⟩ (callF F n) i)) : FnOk P w K mg base CX0 (6 * (n + 1)) (faK fnm K 25) (fds 25) (PS 25) (spF ⟨K, faK fnm K, fcK cd K⟩ (callF F (n + 1)) 25) := by
  have b20 := bn20 Z
  have hd20 : Vals (dV []) [] := .nil
  have nd := fs25.nd
  refine fn_ok (G := ⟨K, faK fnm K, fcK cd K⟩) (f := 25) (fc := ⟨3, 4, .fz, c__law_keys W⟩) rfl Z.d25 fs25 rfl rfl (fun cdv A outer s H E hr => ?_)
  have r0 := hr.mono (j := 6 * n) (by omega)
  have r1 := hr.mono (j := 6 * n + 1) (by omega)
  have r3 := hr.mono (j := 6 * n + 3) (by omega)
  have r3a := hr.mono (j := 3) (by omega)
  have r5 := hr.mono (j := 5) (by omega)
  have hu0 := hr.units
  have hu := hr.units65
  refine code_of (pssc_one (psc_ret (pec_lc kLstM_k rfl nd (pic_range1 rfl Z.f_range (pec_call (f := 20) (di := []) (ih 20) r0 rfl Z.g__law_take Z.d20.kp b20 hd20 (pac_cons (pec_var (i := 0) rfl (.inr (.inl rfl))) (pac_cons (pec_bin (ov_add _ _) (pec_var (i := 1) rfl (.inl rfl)) pec_int) pac_nil)))) bk25_0 (tg_name (by decide)) (fun _ _ _ _ _ => pg_name (i := 3) nd rfl (.inl rfl)) (fun _ _ _ _ _ => ptsc_nil) (fun _ _ _ _ _ => pec_bin ov_sub (pec_call (f := 20) (di := []) (ih 20) r0 rfl Z.g__law_take Z.d20.kp b20 hd20 (pac_cons (pec_var (i := 0) rfl (.inr (.inl rfl))) (pac_cons (pec_var (i := 2) rfl (.inr (.inl rfl))) pac_nil))) (pec_t1 cv_intB bt_int Z.f_int (pec_bin ov_fdiv (pec_var (i := 2) rfl (.inr (.inl rfl))) pec_int)))))) ?_
  rfl
theorem st99 (Z : Facts K mg fds) (T0 : LamX.TabB base mg (He.codeOf K (fnm 1000)) (faK fnm K 1000)) (ih : ∀ i, FnOk P w K mg base CX0 (6 * n) (faK fnm K i) (fds i) (PS i) (spF ⟨K, faK fnm K, fcK cd K⟩ (callF F n) i)) : FnOk P w K mg base CX0 (6 * (n + 1)) (faK fnm K 99) (fds 99) (PS 99) (spF ⟨K, faK fnm K, fcK cd K⟩ (callF F (n + 1)) 99) := by
  have b20 := bn20 Z
  have hd20 : Vals (dV []) [] := .nil
  have b25 := bn25 Z
  have hd25 : Vals (dV []) [] := .nil
  have b35 := bn35 Z
  have hd35 : Vals (dV []) [] := .nil
  have b40 := bn40 Z
  have hd40 : Vals (dV []) [] := .nil
  have b69 := bn69 Z
  have hd69 : Vals (dV []) [] := .nil
  have nd := fs99.nd
  refine fn_ok (G := ⟨K, faK fnm K, fcK cd K⟩) (f := 99) (fc := ⟨1, 22, .fz, c_law_8 W⟩) rfl Z.d99 fs99 rfl rfl (fun cdv A outer s H E hr => ?_)
  have r0 := hr.mono (j := 6 * n) (by omega)
  have r1 := hr.mono (j := 6 * n + 1) (by omega)
  have r3 := hr.mono (j := 6 * n + 3) (by omega)
  have r3a := hr.mono (j := 3) (by omega)
  have r5 := hr.mono (j := 5) (by omega)
  have hu0 := hr.units
  have hu := hr.units65
  refine code_of (pssc_cons (psc_set (i := 1) nd rfl (.inl rfl) (pec_lstM (pac_cons (pec_var (i := 0) rfl (.inl rfl)) (pac_cons pec_int pac_nil))))
    (pssc_cons (psc_for (n := 100000) PassesOwn.never rfl (pic_range1 rfl Z.f_range pec_int) (pgc_name (i := 2) nd rfl (.inl rfl)) (pssc_cons (psc_par (i := 3) (j := 4) nd (pac_cons (pec_call (f := 35) (di := []) (ih 35) r0 rfl Z.g__law_arms Z.d35.kp b35 hd35 (pac_cons (pec_var (i := 1) rfl (.inl rfl)) pac_nil)) (pac_cons (pec_bin (ov_addM _ _) (pec_call (f := 25) (di := []) (ih 25) r0 rfl Z.g__law_keys Z.d25.kp b25 hd25 (pac_cons (pec_var (i := 1) rfl (.inl rfl)) (pac_cons pec_int (pac_cons pec_int pac_nil)))) (pec_lst (pac_cons (pec_call (f := 20) (di := []) (ih 20) r0 rfl Z.g__law_take Z.d20.kp b20 hd20 (pac_cons (pec_var (i := 1) rfl (.inl rfl)) (pac_cons pec_int pac_nil))) pac_nil))) pac_nil)))
    (pssc_cons (psc_set (i := 5) nd rfl (.inl rfl) (pec_t1 (cv_listU (T___iter__ Z) (T___len__ Z ih) r3 r5 rfl) bt_list Z.f_list (pec_var (i := 4) rfl (.inl rfl))))
    (pssc_cons (psc_par (i := 6) (j := 7) nd (pac_cons (pec_callK (f := 32) (lnd_ok (n0 := 1) (ih 32)) r0 rfl Z.g_falls Z.d32.kp (kb32 Z) (pac_cons (pec_var (i := 4) rfl (.inl rfl)) pac_nil) (pkc_cons (pec_var (i := 3) rfl (.inl rfl)) pkc_nil) (alen_cons alen_nil) (alen_cons alen_nil)) (pac_cons (pec_callK (f := 31) (lnd_ok (n0 := 1) (ih 31)) r0 rfl Z.g_faults Z.d31.kp (kb31 Z) (pac_cons (pec_var (i := 4) rfl (.inl rfl)) pac_nil) (pkc_cons (pec_var (i := 3) rfl (.inl rfl)) pkc_nil) (alen_cons alen_nil) (alen_cons alen_nil)) pac_nil)))
    (pssc_cons (psc_set (i := 8) nd rfl (.inl rfl) (pec_lst (pac_cons (pec_t1 (cv_listU (T___iter__ Z) (T___len__ Z ih) r3 r5 rfl) bt_list Z.f_list (pec_var (i := 6) rfl (.inl rfl))) (pac_cons (pec_t1 (cv_listU (T___iter__ Z) (T___len__ Z ih) r3 r5 rfl) bt_list Z.f_list (pec_var (i := 7) rfl (.inl rfl))) pac_nil))))
    (pssc_cons (psc_expr (pec_ml F.slot_list_append F.type_list_append mv_append (pec_var (i := 6) rfl (.inl rfl)) (pac_cons (pec_tup (pac_cons pec_str (pac_cons pec_str pac_nil))) pac_nil)))
    (pssc_cons (psc_expr (pec_ml0 F.slot_list_clear F.type_list_clear mv_clear (pec_var (i := 7) rfl (.inl rfl))))
    (pssc_cons (psc_if (ptc_cmp (ov_neO hu (T___eq__ Z ih) r1) (pec_lst (pac_cons (pec_fz (pec_callK (f := 32) (lnd_ok (n0 := 1) (ih 32)) r0 rfl Z.g_falls Z.d32.kp (kb32 Z) (pac_cons (pec_var (i := 4) rfl (.inl rfl)) pac_nil) (pkc_cons (pec_var (i := 3) rfl (.inl rfl)) pkc_nil) (alen_cons alen_nil) (alen_cons alen_nil))) (pac_cons (pec_fz (pec_callK (f := 31) (lnd_ok (n0 := 1) (ih 31)) r0 rfl Z.g_faults Z.d31.kp (kb31 Z) (pac_cons (pec_var (i := 4) rfl (.inl rfl)) pac_nil) (pkc_cons (pec_var (i := 3) rfl (.inl rfl)) pkc_nil) (alen_cons alen_nil) (alen_cons alen_nil))) pac_nil))) (pec_var (i := 8) rfl (.inl rfl)) rfl) (pssc_one (psc_ret pec_bl)) pssc_nil)
    (pssc_cons (psc_par (i := 9) (j := 10) nd (pac_cons (pec_callK (f := 48) (lnd_ok (n0 := 1) (ih 48)) r0 rfl Z.g_sift_up Z.d48.kp (kb48 Z) (pac_cons (pec_var (i := 4) rfl (.inl rfl)) (pac_cons (pec_bin ov_sub (pec_b1 (cv_lenO (T___len__ Z ih) r1) bt_len Z.f_len (pec_var (i := 4) rfl (.inl rfl))) pec_int) pac_nil)) (pkc_cons (pec_var (i := 3) rfl (.inl rfl)) pkc_nil) (alen_cons (alen_cons alen_nil)) (alen_cons alen_nil)) (pac_cons (pec_callK (f := 49) (lnd_ok (n0 := 1) (ih 49)) r0 rfl Z.g_sift_down Z.d49.kp (kb49 Z) (pac_cons (pec_var (i := 4) rfl (.inl rfl)) (pac_cons pec_int pac_nil)) (pkc_cons (pec_var (i := 3) rfl (.inl rfl)) pkc_nil) (alen_cons (alen_cons alen_nil)) (alen_cons alen_nil)) pac_nil)))
    (pssc_cons (psc_set (i := 11) nd rfl (.inl rfl) (pec_callK (f := 74) (lnd_ok (n0 := 1) (ih 74)) r0 rfl Z.g_build Z.d74.kp (kb74 Z) (pac_cons (pec_var (i := 4) rfl (.inl rfl)) pac_nil) (pkc_cons (pec_var (i := 3) rfl (.inl rfl)) pkc_nil) (alen_cons alen_nil) (alen_cons alen_nil)))
    (pssc_cons (psc_set (i := 12) nd rfl (.inl rfl) (pec_t1 (cv_listUM (T___iter__ Z) (T___len__ Z ih) r3 r5 rfl) bt_list Z.f_list (pec_fld (S_row Z) (pec_var (i := 11) rfl (.inl rfl)))))
    (pssc_cons (psc_asg (pec_callK (f := 62) (lnd_ok (n0 := 1) (ih 62)) r0 rfl Z.g_take Z.d62.kp (kb62 Z) (pac_cons (pec_var (i := 12) rfl (.inl rfl)) pac_nil) (pkc_cons (pec_var (i := 3) rfl (.inl rfl)) pkc_nil) (alen_cons alen_nil) (alen_cons alen_nil)) (pgc_tup rfl (pgsc_cons (pgc_name (i := 13) nd rfl (.inl rfl)) (pgsc_cons (pgc_name (i := 14) nd rfl (.inl rfl)) pgsc_nil))))
    (pssc_cons (psc_if (ptc_bool (pwc_or (ptc_cmp (ov_neO hu (T___eq__ Z ih) r1) (pec_var (i := 4) rfl (.inl rfl)) (pec_var (i := 5) rfl (.inl rfl)) rfl) (pwc_or1 (ptc_cmp (ov_neO hu (T___eq__ Z ih) r1) (pec_var (i := 12) rfl (.inl rfl)) (pec_t1 (cv_listU (T___iter__ Z) (T___len__ Z ih) r3 r5 rfl) bt_list Z.f_list (pec_fld (S_row Z) (pec_var (i := 11) rfl (.inl rfl)))) rfl)))) (pssc_one (psc_ret pec_bl)) pssc_nil)
    (pssc_cons (psc_set (i := 15) nd rfl (.inl rfl) (pec_lst (pac_cons (pec_fld (S_row Z) (pec_var (i := 9) rfl (.inl rfl))) (pac_cons (pec_fld (S_row Z) (pec_var (i := 10) rfl (.inl rfl))) (pac_cons (pec_fld (S_row Z) (pec_var (i := 11) rfl (.inl rfl))) (pac_cons (pec_fld (S_row Z) (pec_var (i := 14) rfl (.inl rfl))) pac_nil))))))
    (pssc_cons (psc_par3 (i := 16) (j := 17) (l := 18) nd (pac_cons (pec_t1 (cv_listUM (T___iter__ Z) (T___len__ Z ih) r3 r5 rfl) bt_list Z.f_list (pec_fld (S_row Z) (pec_var (i := 9) rfl (.inl rfl)))) (pac_cons (pec_t1 (cv_listUM (T___iter__ Z) (T___len__ Z ih) r3 r5 rfl) bt_list Z.f_list (pec_fld (S_way Z) (pec_var (i := 9) rfl (.inl rfl)))) (pac_cons (pec_t1 (cv_listUM (T___iter__ Z) (T___len__ Z ih) r3 r5 rfl) bt_list Z.f_list (pec_fld (S_stops Z) (pec_var (i := 11) rfl (.inl rfl)))) pac_nil))))
    (pssc_cons (psc_par (i := 19) (j := 20) nd (pac_cons (pec_new (keep := false) (c := 6) (i := 40) (di := []) Z.mk_Sift (ih 40) r1 rfl Z.k_Sift b40 hd40 (pac_cons (pec_var (i := 16) rfl (.inl rfl)) (pac_cons (pec_var (i := 17) rfl (.inl rfl)) (pac_cons (pec_fld (S_looks Z) (pec_var (i := 9) rfl (.inl rfl))) pac_nil)))) (pac_cons (pec_new (keep := false) (c := 11) (i := 69) (di := []) Z.mk_Built (ih 69) r1 rfl Z.k_Built b69 hd69 (pac_cons (pec_var (i := 16) rfl (.inl rfl)) (pac_cons (pec_var (i := 18) rfl (.inl rfl)) (pac_cons (pec_fld (S_changes Z) (pec_var (i := 11) rfl (.inl rfl))) (pac_cons (pec_fld (S_looks Z) (pec_var (i := 11) rfl (.inl rfl))) pac_nil))))) pac_nil)))
    (pssc_cons (psc_for (n := 100000) PassesOwn.never rfl (pic_own (T___iter__ Z) r3a (pec_tup (pac_cons (pec_var (i := 4) rfl (.inl rfl)) (pac_cons (pec_var (i := 12) rfl (.inl rfl)) (pac_cons (pec_var (i := 16) rfl (.inl rfl)) (pac_cons (pec_var (i := 17) rfl (.inl rfl)) (pac_cons (pec_var (i := 18) rfl (.inl rfl)) pac_nil))))))) (pgc_name (i := 21) nd rfl (.inl rfl)) (pssc_one (psc_expr (pec_ml0 F.slot_list_clear F.type_list_clear mv_clear (pec_var (i := 21) rfl (.inl rfl))))))
    (pssc_cons (psc_if (ptc_cmp (ov_neO hu (T___eq__ Z ih) r1) (pec_var (i := 19) rfl (.inl rfl)) (pec_var (i := 9) rfl (.inl rfl)) rfl) (pssc_one (psc_ret pec_bl)) pssc_nil)
    (pssc_cons (psc_if (ptc_cmp (ov_neO hu (T___eq__ Z ih) r1) (pec_var (i := 20) rfl (.inl rfl)) (pec_new (keep := false) (c := 11) (i := 69) (di := []) Z.mk_Built (ih 69) r1 rfl Z.k_Built b69 hd69 (pac_cons (pec_fld (S_row Z) (pec_var (i := 9) rfl (.inl rfl))) (pac_cons (pec_fld (S_stops Z) (pec_var (i := 11) rfl (.inl rfl))) (pac_cons (pec_fld (S_changes Z) (pec_var (i := 11) rfl (.inl rfl))) (pac_cons (pec_fld (S_looks Z) (pec_var (i := 11) rfl (.inl rfl))) pac_nil))))) rfl) (pssc_one (psc_ret pec_bl)) pssc_nil)
    (pssc_cons (psc_if (ptc_cmp (ov_neO hu (T___eq__ Z ih) r1) (pec_lst (pac_cons (pec_fld (S_row Z) (pec_var (i := 9) rfl (.inl rfl))) (pac_cons (pec_fld (S_row Z) (pec_var (i := 10) rfl (.inl rfl))) (pac_cons (pec_fld (S_row Z) (pec_var (i := 11) rfl (.inl rfl))) (pac_cons (pec_fld (S_row Z) (pec_var (i := 14) rfl (.inl rfl))) pac_nil))))) (pec_var (i := 15) rfl (.inl rfl)) rfl) (pssc_one (psc_ret pec_bl)) pssc_nil)
    (pssc_cons (psc_if (ptc_cmp (ov_neO hu (T___eq__ Z ih) r1) (pec_b1 (cv_sorted _ _ hu) bt_sorted Z.f_sorted (pec_bin (ov_add _ _) (pec_lst (pac_cons (pec_var (i := 13) rfl (.inl rfl)) pac_nil)) (pec_t1 (cv_listU (T___iter__ Z) (T___len__ Z ih) r3 r5 rfl) bt_list Z.f_list (pec_fld (S_row Z) (pec_var (i := 14) rfl (.inl rfl)))))) (pec_b1 (cv_sorted _ _ hu) bt_sorted Z.f_sorted (pec_var (i := 5) rfl (.inl rfl))) rfl) (pssc_one (psc_ret pec_bl)) pssc_nil)
    (pssc_one (psc_if (ptc_bool (pwc_and (ptc_cmp ov_lt (pec_b1 (cv_lenO (T___len__ Z ih) r1) bt_len Z.f_len (pec_ixO (T___getitem__ Z ih) r1 (pec_var (i := 15) rfl (.inl rfl)) pec_int)) pec_int rfl) (pwc_and1 (ptc_cmp (ov_neO hu (T___eq__ Z ih) r1) (pec_b1 (cv_lenO (T___len__ Z ih) r1) bt_len Z.f_len (pec_fld (S_row Z) (pec_callK (f := 61) (lnd_ok (n0 := 1) (ih 61)) r0 rfl Z.g_push Z.d61.kp (kb61 Z) (pac_cons (pec_ixO (T___getitem__ Z ih) r1 (pec_var (i := 15) rfl (.inl rfl)) pec_int) (pac_cons pec_int pac_nil)) (pkc_cons (pec_var (i := 3) rfl (.inl rfl)) pkc_nil) (alen_cons (alen_cons alen_nil)) (alen_cons alen_nil)))) (pec_bin (ov_add _ _) (pec_b1 (cv_lenO (T___len__ Z ih) r1) bt_len Z.f_len (pec_var (i := 5) rfl (.inl rfl))) pec_int) rfl)))) (pssc_one (psc_ret pec_bl)) pssc_nil)))))))))))))))))))))))
    (pssc_one (psc_ret pec_bl)))) ?_
  rfl
theorem allOk (Z : Facts K mg fds) (T0 : LamX.TabB base mg (He.codeOf K (fnm 1000)) (faK fnm K 1000)) : ∀ n i, FnOk P w K mg base CX0 (6 * n) (faK fnm K i) (fds i) (PS i) (spF ⟨K, faK fnm K, fcK cd K⟩ (callF F n) i) := by
  intro n
  induction n with
  | zero => exact fun i => fn_ok0 (G := ⟨K, faK fnm K, fcK cd K⟩)
  | succ n ih =>
    intro i
    cases h : F i with
    | none => exact fn_none (G := ⟨K, faK fnm K, fcK cd K⟩) h
    | some fc =>
      have hk := Tr.look_keys h
      rw [show ft.keys = [1, 2, 3, 4, 5, 7, 8, 9, 10, 11, 12, 13, 16, 19, 20, 25, 28, 29, 31, 32, 34, 35, 40, 41, 42, 43, 44, 45, 46, 47, 48, 49, 55, 57, 58, 60, 61, 62, 69, 70, 71, 72, 73, 74, 99, 2006] from rfl] at hk
      simp only [List.mem_cons, List.not_mem_nil, or_false] at hk
      rcases hk with rfl | rfl | rfl | rfl | rfl | rfl | rfl | rfl | rfl | rfl | rfl | rfl | rfl | rfl | rfl | rfl | rfl | rfl | rfl | rfl | rfl | rfl | rfl | rfl | rfl | rfl | rfl | rfl | rfl | rfl | rfl | rfl | rfl | rfl | rfl | rfl | rfl | rfl | rfl | rfl | rfl | rfl | rfl | rfl | rfl | rfl
      · exact st1 Z T0 ih
      · exact st2 Z T0 ih
      · exact st3 Z T0 ih
      · exact st4 Z T0 ih
      · exact st5 Z T0 ih
      · exact st7 Z T0 ih
      · exact st8 Z T0 ih
      · exact st9 Z T0 ih
      · exact st10 Z T0 ih
      · exact st11 Z T0 ih
      · exact st12 Z T0 ih
      · exact st13 Z T0 ih
      · exact st16 Z T0 ih
      · exact st19 Z T0 ih
      · exact st20 Z T0 ih
      · exact st25 Z T0 ih
      · exact st28 Z T0 ih
      · exact st29 Z T0 ih
      · exact st31 Z T0 ih
      · exact st32 Z T0 ih
      · exact st34 Z T0 ih
      · exact st35 Z T0 ih
      · exact st40 Z T0 ih
      · exact st41 Z T0 ih
      · exact st42 Z T0 ih
      · exact st43 Z T0 ih
      · exact st44 Z T0 ih
      · exact st45 Z T0 ih
      · exact st46 Z T0 ih
      · exact st47 Z T0 ih
      · exact st48 Z T0 ih
      · exact st49 Z T0 ih
      · exact st55 Z T0 ih
      · exact st57 Z T0 ih
      · exact st58 Z T0 ih
      · exact st60 Z T0 ih
      · exact st61 Z T0 ih
      · exact st62 Z T0 ih
      · exact st69 Z T0 ih
      · exact st70 Z T0 ih
      · exact st71 Z T0 ih
      · exact st72 Z T0 ih
      · exact st73 Z T0 ih
      · exact st74 Z T0 ih
      · exact st99 Z T0 ih
      · exact st2006 Z T0 ih
end
end Ev.k09
namespace Ev.k09
open PySem PySem.Spec PyProof.Rows L2 Ev
theorem facts {K : PySem.W.Frag} {h : Heap} {mg : Str → Option Value} (X : K.In h) (G : h.Ns mainGlobals mg) (c : SaysX chk fal fnl K) : ∃ fds : Nat → FuncData, Facts K mg fds := by
  have c0 := c.chk_
  replace c0 := (He.ba c0).1
  obtain ⟨fd1, D1⟩ := c.def_ 0 (d := dd1) rfl
  obtain ⟨fd2, D2⟩ := c.def_ 1 (d := dd2) rfl
  obtain ⟨fd3, D3⟩ := c.def_ 2 (d := dd3) rfl
  obtain ⟨fd4, D4⟩ := c.def_ 3 (d := dd4) rfl
  obtain ⟨fd5, D5⟩ := c.def_ 4 (d := dd5) rfl
  obtain ⟨fd2006, D2006⟩ := c.def_ 5 (d := dd2006) rfl
  obtain ⟨fd7, D7⟩ := c.def_ 6 (d := dd7) rfl
  obtain ⟨fd8, D8⟩ := c.def_ 7 (d := dd8) rfl
  obtain ⟨fd9, D9⟩ := c.def_ 8 (d := dd9) rfl
  obtain ⟨fd10, D10⟩ := c.def_ 9 (d := dd10) rfl
  obtain ⟨fd11, D11⟩ := c.def_ 10 (d := dd11) rfl
  obtain ⟨fd12, D12⟩ := c.def_ 11 (d := dd12) rfl
  obtain ⟨fd13, D13⟩ := c.def_ 12 (d := dd13) rfl
  obtain ⟨fd16, D16⟩ := c.def_ 13 (d := dd16) rfl
  obtain ⟨fd55, D55⟩ := c.def_ 14 (d := dd55) rfl
  obtain ⟨fd28, D28⟩ := c.def_ 15 (d := dd28) rfl
  obtain ⟨fd29, D29⟩ := c.def_ 16 (d := dd29) rfl
  obtain ⟨fd31, D31⟩ := c.def_ 17 (d := dd31) rfl
  obtain ⟨fd32, D32⟩ := c.def_ 18 (d := dd32) rfl
  obtain ⟨fd40, D40⟩ := c.def_ 19 (d := dd40) rfl
  obtain ⟨fd41, D41⟩ := c.def_ 20 (d := dd41) rfl
  obtain ⟨fd42, D42⟩ := c.def_ 21 (d := dd42) rfl
  obtain ⟨fd43, D43⟩ := c.def_ 22 (d := dd43) rfl
  obtain ⟨fd44, D44⟩ := c.def_ 23 (d := dd44) rfl
  obtain ⟨fd45, D45⟩ := c.def_ 24 (d := dd45) rfl
  obtain ⟨fd46, D46⟩ := c.def_ 25 (d := dd46) rfl
  obtain ⟨fd47, D47⟩ := c.def_ 26 (d := dd47) rfl
  obtain ⟨fd48, D48⟩ := c.def_ 27 (d := dd48) rfl
  obtain ⟨fd49, D49⟩ := c.def_ 28 (d := dd49) rfl
  obtain ⟨fd69, D69⟩ := c.def_ 29 (d := dd69) rfl
  obtain ⟨fd70, D70⟩ := c.def_ 30 (d := dd70) rfl
  obtain ⟨fd71, D71⟩ := c.def_ 31 (d := dd71) rfl
  obtain ⟨fd72, D72⟩ := c.def_ 32 (d := dd72) rfl
  obtain ⟨fd73, D73⟩ := c.def_ 33 (d := dd73) rfl
  obtain ⟨fd57, D57⟩ := c.def_ 34 (d := dd57) rfl
  obtain ⟨fd58, D58⟩ := c.def_ 35 (d := dd58) rfl
  obtain ⟨fd60, D60⟩ := c.def_ 36 (d := dd60) rfl
  obtain ⟨fd61, D61⟩ := c.def_ 37 (d := dd61) rfl
  obtain ⟨fd62, D62⟩ := c.def_ 38 (d := dd62) rfl
  obtain ⟨fd74, D74⟩ := c.def_ 39 (d := dd74) rfl
  obtain ⟨fd19, D19⟩ := c.def_ 40 (d := dd19) rfl
  obtain ⟨fd20, D20⟩ := c.def_ 41 (d := dd20) rfl
  obtain ⟨fd34, D34⟩ := c.def_ 42 (d := dd34) rfl
  obtain ⟨fd35, D35⟩ := c.def_ 43 (d := dd35) rfl
  obtain ⟨fd25, D25⟩ := c.def_ 44 (d := dd25) rfl
  obtain ⟨fd99, D99⟩ := c.def_ 45 (d := dd99) rfl
  obtain ⟨fd14, D14⟩ := c.def_ 46 (d := dd14) rfl
  obtain ⟨fd15, D15⟩ := c.def_ 47 (d := dd15) rfl
  obtain ⟨fd17, D17⟩ := c.def_ 48 (d := dd17) rfl
  obtain ⟨fd18, D18⟩ := c.def_ 49 (d := dd18) rfl
  refine ⟨fun i => match i with | 1 => fd1 | 2 => fd2 | 3 => fd3 | 4 => fd4 | 5 => fd5 | 2006 => fd2006 | 7 => fd7 | 8 => fd8 | 9 => fd9 | 10 => fd10 | 11 => fd11 | 12 => fd12 | 13 => fd13 | 16 => fd16 | 55 => fd55 | 28 => fd28 | 29 => fd29 | 31 => fd31 | 32 => fd32 | 40 => fd40 | 41 => fd41 | 42 => fd42 | 43 => fd43 | 44 => fd44 | 45 => fd45 | 46 => fd46 | 47 => fd47 | 48 => fd48 | 49 => fd49 | 69 => fd69 | 70 => fd70 | 71 => fd71 | 72 => fd72 | 73 => fd73 | 57 => fd57 | 58 => fd58 | 60 => fd60 | 61 => fd61 | 62 => fd62 | 74 => fd74 | 19 => fd19 | 20 => fd20 | 34 => fd34 | 35 => fd35 | 25 => fd25 | 99 => fd99 | 14 => fd14 | 15 => fd15 | 17 => fd17 | 18 => fd18 | _ => fd1, ?_⟩
  exact ⟨c0, D1, He.glo_ok X G (c.fact 0 (f := .glo "is_number") rfl), D2, He.glo_ok X G (c.fact 1 (f := .glo "is_key") rfl), D3, He.glo_ok X G (c.fact 2 (f := .glo "check_arms") rfl), D4, He.glo_ok X G (c.fact 3 (f := .glo "check_row") rfl), D5, D2006, D7, D8, D9, D10, D11, D12, D13, D16, D55, He.glo_ok X G (c.fact 4 (f := .glo "check_heap") rfl), D28, He.glo_ok X G (c.fact 5 (f := .glo "faults_in") rfl), D29, He.glo_ok X G (c.fact 6 (f := .glo "falls_in") rfl), D31, He.glo_ok X G (c.fact 7 (f := .glo "faults") rfl), D32, He.glo_ok X G (c.fact 8 (f := .glo "falls") rfl), D40, D41, D42, He.glo_ok X G (c.fact 9 (f := .glo "moved") rfl), D43, He.glo_ok X G (c.fact 10 (f := .glo "first_least") rfl), D44, He.glo_ok X G (c.fact 11 (f := .glo "way_up") rfl), D45, He.glo_ok X G (c.fact 12 (f := .glo "way_down") rfl), D46, He.glo_ok X G (c.fact 13 (f := .glo "lifted") rfl), D47, He.glo_ok X G (c.fact 14 (f := .glo "sunk") rfl), D48, He.glo_ok X G (c.fact 15 (f := .glo "sift_up") rfl), D49, He.glo_ok X G (c.fact 16 (f := .glo "sift_down") rfl), D69, D70, D71, D72, He.glo_ok X G (c.fact 17 (f := .glo "parents_of") rfl), D73, He.glo_ok X G (c.fact 18 (f := .glo "built") rfl), D57, He.glo_ok X G (c.fact 19 (f := .glo "without_last") rfl), D58, He.glo_ok X G (c.fact 20 (f := .glo "taken") rfl), D60, He.glo_ok X G (c.fact 21 (f := .glo "check_full") rfl), D61, He.glo_ok X G (c.fact 22 (f := .glo "push") rfl), D62, He.glo_ok X G (c.fact 23 (f := .glo "take") rfl), D74, He.glo_ok X G (c.fact 24 (f := .glo "build") rfl), D19, He.glo_ok X G (c.fact 25 (f := .glo "_law_number") rfl), D20, He.glo_ok X G (c.fact 26 (f := .glo "_law_take") rfl), D34, He.glo_ok X G (c.fact 27 (f := .glo "_law_pick") rfl), D35, He.glo_ok X G (c.fact 28 (f := .glo "_law_arms") rfl), D25, He.glo_ok X G (c.fact 29 (f := .glo "_law_keys") rfl), D99, He.glo_ok X G (c.fact 30 (f := .glo "law") rfl), D14, D15, D17, D18, He.free_ok X G (c.fact 37 (f := .free "bool") rfl), He.free_ok X G (c.fact 38 (f := .free "enumerate") rfl), He.free_ok X G (c.fact 39 (f := .free "int") rfl), He.free_ok X G (c.fact 40 (f := .free "isinstance") rfl), He.free_ok X G (c.fact 41 (f := .free "iter") rfl), He.free_ok X G (c.fact 42 (f := .free "len") rfl), He.free_ok X G (c.fact 43 (f := .free "list") rfl), He.free_ok X G (c.fact 44 (f := .free "min") rfl), He.free_ok X G (c.fact 45 (f := .free "range") rfl), He.free_ok X G (c.fact 46 (f := .free "sorted") rfl), He.free_ok X G (c.fact 47 (f := .free "sum") rfl), He.free_ok X G (c.fact 48 (f := .free "tuple") rfl), He.free_ok X G (c.fact 49 (f := .free "zip") rfl), He.int_ok X G (c.fact 50 (f := .int "MOST_ARMS" 4) rfl), He.int_ok X G (c.fact 51 (f := .int "MOST_KEY" 1000000000) rfl), He.int_ok X G (c.fact 52 (f := .int "MOST_PLACES" 12) rfl), He.glo_ok X G (c.fact 31 (f := .glo "Built") rfl), He.mkr_ok (c.fact 34 (f := .mkr "Built") rfl), He.glo_ok X G (c.fact 32 (f := .glo "Sift") rfl), He.mkr_ok (c.fact 35 (f := .mkr "Sift") rfl), He.glo_ok X G (c.fact 33 (f := .glo "Tree") rfl), He.mkr_ok (c.fact 36 (f := .mkr "Tree") rfl)⟩
end Ev.k09
namespace Ev
open PySem PySem.Spec PyProof.Rows L2
def okA (A : Hs) : Bool := A.all (lowC A.length)
theorem lowV_up {n m : Nat} (h : n ≤ m) : ∀ {v : AV}, lowV n v = true → lowV m v = true
  | .ref i, e => by
    have := blt_lt e
    exact Nat.ble_eq_true_of_le (by omega)
  | .mix _, e => by cases e
  | .non, _ => rfl
  | .bl _, _ => rfl
  | .int _, _ => rfl
  | .str _, _ => rfl
  | .tup _, _ => rfl
  | .lst _, _ => rfl
  | .scr _, _ => rfl
  | .obj _ _, _ => rfl
  | .dct _ _ _, _ => rfl
  | .fn _, _ => rfl
  | .ty _, _ => rfl
  | .cls _, _ => rfl
  | .und, _ => rfl
theorem lowC_up {n m : Nat} (h : n ≤ m) {c : Cell} (e : lowC n c = true) : lowC m c = true := by
  cases c with
  | lst xs => exact List.all_eq_true.mpr fun x hx => lowV_up h (List.all_eq_true.mp e x hx)
  | ins c fs => exact List.all_eq_true.mpr fun x hx => lowV_up h (List.all_eq_true.mp e x hx)
  | dct _ _ fs => exact List.all_eq_true.mpr fun x hx => lowV_up h (List.all_eq_true.mp e x hx)
  | tab i => rfl
theorem lowV_F {n : Nat} : ∀ {v : AV}, isF v = true → lowV n v = true
  | .ref _, e => by cases e
  | .mix _, e => by cases e
  | .und, e => by cases e
  | .non, _ => rfl
  | .bl _, _ => rfl
  | .int _, _ => rfl
  | .str _, _ => rfl
  | .tup _, _ => rfl
  | .lst _, _ => rfl
  | .scr _, _ => rfl
  | .obj _ _, _ => rfl
  | .dct _ _ _, _ => rfl
  | .fn _, _ => rfl
  | .ty _, _ => rfl
  | .cls _, _ => rfl
theorem allF_iff : ∀ {xs : List AV}, allF xs = true ↔ ∀ x ∈ xs, isF x = true
  | [] => by simp [allF]
  | x :: r => by
    unfold allF
    cases h : isF x with
    | true => simp only [allF_iff (xs := r)]; simp [h]
    | false => simp [h]
theorem okA_lst {A : Hs} {xs : List AV} (h : okA A = true) (hx : allF xs = true) : okA (A ++ [.lst xs]) = true := by
  unfold okA
  rw [List.all_append, Bool.and_eq_true]
  refine ⟨List.all_eq_true.mpr fun c hc => lowC_up (by simp) (List.all_eq_true.mp h c hc), ?_⟩
  rw [List.all_cons, List.all_nil, Bool.and_true]
  exact List.all_eq_true.mpr fun x hx' => lowV_F (allF_iff.mp hx x hx')
theorem fzV_F {n0 ban k : Nat} {A : Hs} : ∀ {v : AV}, isF v = true → fzV n0 ban A (k + 1) v = some v
  | .ref _, e => by cases e
  | .mix _, e => by cases e
  | .und, e => by cases e
  | .non, _ => rfl
  | .bl _, _ => rfl
  | .int _, _ => rfl
  | .str _, _ => rfl
  | .tup _, _ => rfl
  | .lst _, _ => rfl
  | .scr _, _ => rfl
  | .obj _ _, _ => rfl
  | .dct _ _ _, _ => rfl
  | .fn _, _ => rfl
  | .ty _, _ => rfl
  | .cls _, _ => rfl
theorem optAll_F {n0 ban k : Nat} {A : Hs} : ∀ {xs : List AV}, allF xs = true → optAll (fzV n0 ban A (k + 1)) xs = some xs
  | [], _ => rfl
  | x :: r, h => by
    have h' := allF_iff.mp h
    unfold optAll
    rw [fzV_F (h' x List.mem_cons_self), optAll_F (allF_iff.mpr fun y hy => h' y (List.mem_cons_of_mem _ hy))]
theorem fin1_same {v : AV} {A : Hs} : fin1 A.length v A = .ok v A := by
  unfold fin1
  rw [Nat.beq_refl]
theorem take_app {A B : Hs} : (A ++ B).take A.length = A := by simp
/-- a value that does not change -/
theorem fin1_F {v : AV} {A : Hs} (B : Hs) (ha : okA A = true) (hv : isF v = true) : fin1 A.length v (A ++ B) = .ok v A := by
  unfold fin1
  cases e : Nat.beq (A ++ B).length A.length with
  | true =>
    have := Nat.eq_of_beq_eq_true e
    have : B = [] := by
      rw [List.length_append] at this
      exact List.eq_nil_of_length_eq_zero (by omega)
    subst this
    rw [List.append_nil]
  | false =>
    dsimp only
    rw [fzV_F hv, take_app]
    show pick (A.all (lowC A.length)) _ _ = _
    rw [show A.all (lowC A.length) = true from ha]
    rfl
/-- a list of such ones -/
theorem fin1_L {A B : Hs} {i : Nat} {xs : List AV} (ha : okA A = true) (hi : A.length ≤ i) (hB : (A ++ B)[i]? = some (.lst xs)) (hx : allF xs = true) : fin1 A.length (.ref i) (A ++ B) = .ok (.lst xs) A := by
  have hlt := (List.getElem?_eq_some_iff.mp hB).1
  unfold fin1
  cases e : Nat.beq (A ++ B).length A.length with
  | true =>
    have := Nat.eq_of_beq_eq_true e
    omega
  | false =>
    dsimp only
    have e1 : Nat.blt i A.length = false := by
      cases z : Nat.blt i A.length with
      | false => rfl
      | true => have := blt_lt z; omega
    have e2 : Nat.beq i (A ++ B).length = false := by
      cases z : Nat.beq i (A ++ B).length with
      | false => rfl
      | true => have := Nat.eq_of_beq_eq_true z; omega
    have e3 : fzV A.length (A ++ B).length (A ++ B) 8 (.ref i) = some (.lst xs) := by
      unfold fzV
      dsimp only
      rw [e1]
      dsimp only
      rw [e2]
      dsimp only
      rw [hB]
      dsimp only
      rw [optAll_F hx]
      dsimp only
      rw [hx]
      rfl
    rw [e3, take_app]
    show pick (A.all (lowC A.length)) _ _ = _
    rw [show A.all (lowC A.length) = true from ha]
    rfl
section
variable {F : Nat → Option FnC} {n f np nl : Nat} {code : CallT → CS} {us : List AV} {A : Hs} {v : AV}
theorem call_rt (hF : F f = some ⟨np, nl, .fz, code⟩) (hl : us.length = np) (B : Hs) (hv : isF v = true) (ha : okA A = true) (h : code (callF F n) (us ++ List.replicate (nl - np) .und) A = .rt v (A ++ B)) : callF F (n + 1) f us A = .ok v A := by
  unfold callF
  rw [hF]
  dsimp only
  rw [hl, Nat.beq_refl]
  dsimp only [finM]
  rw [h]
  exact fin1_F B ha hv
theorem call_rt0 (hF : F f = some ⟨np, nl, .fz, code⟩) (hl : us.length = np) (h : code (callF F n) (us ++ List.replicate (nl - np) .und) A = .rt v A) : callF F (n + 1) f us A = .ok v A := by
  unfold callF
  rw [hF]
  dsimp only
  rw [hl, Nat.beq_refl]
  dsimp only [finM]
  rw [h]
  exact fin1_same
theorem call_nx0 {e : En} (hF : F f = some ⟨np, nl, .fz, code⟩) (hl : us.length = np) (h : code (callF F n) (us ++ List.replicate (nl - np) .und) A = .nx e A) : callF F (n + 1) f us A = .ok .non A := by
  unfold callF
  rw [hF]
  dsimp only
  rw [hl, Nat.beq_refl]
  dsimp only [finM]
  rw [h]
  exact fin1_same
theorem call_rtL {B : Hs} {i : Nat} {xs : List AV} (hF : F f = some ⟨np, nl, .fz, code⟩) (hl : us.length = np) (ha : okA A = true) (hi : A.length ≤ i) (hB : (A ++ B)[i]? = some (.lst xs)) (hx : allF xs = true)
    (h : code (callF F n) (us ++ List.replicate (nl - np) .und) A = .rt (.ref i) (A ++ B)) : callF F (n + 1) f us A = .ok (.lst xs) A := by
  unfold callF
  rw [hF]
  dsimp only
  rw [hl, Nat.beq_refl]
  dsimp only [finM]
  rw [h]
  exact fin1_L ha hi hB hx
end
section
variable {a b : CS} {c : CE} {e e' : En} {A A' : Hs} {v : AV} {g : CG}
theorem seq_nx (h : a e A = .nx e' A') : sSeq a b e A = b e' A' := by unfold sSeq; rw [h]
theorem if_t (h : c e A = .ok (.bl true) A') : sIf c a b e A = a e A' := by unfold sIf; rw [h]; rfl
theorem if_f (h : c e A = .ok (.bl false) A') : sIf c a b e A = b e A' := by unfold sIf; rw [h]; rfl
theorem ret_ok (h : c e A = .ok v A') : sRet c e A = .rt v A' := by unfold sRet; rw [h]
theorem expr_ok (h : c e A = .ok v A') : sExpr c e A = .nx e A' := by unfold sExpr; rw [h]
theorem asg_ok (h : c e A = .ok v A') : sAsg c (gN i) e A = .nx (e.set i v) A' := by unfold sAsg gN; rw [h]
theorem and_t {a b : CE} (h : a e A = .ok (.bl true) A') : cAnd a b e A = b e A' := by unfold cAnd; rw [h]; rfl
theorem and_f {a b : CE} (h : a e A = .ok (.bl false) A') : cAnd a b e A = .ok (.bl false) A' := by unfold cAnd; rw [h]; rfl
theorem or_t {a b : CE} (h : a e A = .ok (.bl true) A') : cOr a b e A = .ok (.bl true) A' := by unfold cOr; rw [h]; rfl
theorem or_f {a b : CE} (h : a e A = .ok (.bl false) A') : cOr a b e A = b e A' := by unfold cOr; rw [h]; rfl
theorem not_ok {a : CE} {t : Bool} (h : a e A = .ok (.bl t) A') : cNot a e A = .ok (.bl !t) A' := by unfold cNot; rw [h]; rfl
theorem bin_ok {a b : CE} {f : AV → AV → Hs → R} {x y : AV} {A2 : Hs} (h1 : a e A = .ok x A') (h2 : b e A' = .ok y A2) : cBin f a b e A = f x y A2 := by unfold cBin; rw [h1]; dsimp only [R.bind]; rw [h2]
theorem un_ok {a : CE} {f : AV → Hs → R} {x : AV} (h1 : a e A = .ok x A') : cUn f a e A = f x A' := by unfold cUn; rw [h1]; rfl
theorem ife_t {c a b : CE} (h : c e A = .ok (.bl true) A') : cIf c a b e A = a e A' := by unfold cIf; rw [h]; rfl
theorem ife_f {c a b : CE} (h : c e A = .ok (.bl false) A') : cIf c a b e A = b e A' := by unfold cIf; rw [h]; rfl
theorem acons_ok {a : CE} {r : CA} {x : AV} {xs : List AV} {A2 : Hs} (h1 : a e A = .ok x A') (h2 : r e A' = .ok xs A2) : aCons a r e A = .ok (x :: xs) A2 := by unfold aCons; rw [h1]; dsimp only; rw [h2]
theorem call_ok {call : CallT} {f : Nat} {dv : List AV} {a : CA} {xs : List AV} (h : a e A = .ok xs A') : cCall call f dv a e A = call f (xs ++ dv) A' := by unfold cCall cArgs; rw [h]; rfl
/-- for over a known row of values: one step after the other -/
theorem for_stop {s : Src} {n k : Nat} (h : s.at A k = some none) : sFor s g b (n + 1) k e A = .nx e A := by
  unfold sFor; rw [h]
theorem for_step {s : Src} {n k : Nat} {e1 e2 : En} {A2 : Hs} (h : s.at A k = some (some v)) (hg : g v e A = .ok e1 A) (hb : b e1 A = .nx e2 A2) : sFor s g b (n + 1) k e A = sFor s g b n (k + 1) e2 A2 := by
  rw [sFor]; dsimp only; rw [h]; dsimp only; rw [hg]; dsimp only; rw [hb]
end
theorem at_app {α : Type} {pre : List α} {x : α} {r : List α} : (pre ++ x :: r)[pre.length]? = some x := by
  rw [List.getElem?_append_right (Nat.le_refl _), Nat.sub_self]; rfl
theorem at_end {α : Type} {pre : List α} : (pre ++ [])[pre.length]? = none := by simp
section
variable {s : Src} {g : CG} {b : CS} {ct te : CE} {xs : List AV}
theorem for_items (I : List AV → En → Hs → Prop) (hs : ∀ A k, s.at A k = some xs[k]?) (step : ∀ x r e A, I (x :: r) e A → ∃ e1 e2 A2, g x e A = .ok e1 A ∧ b e1 A = .nx e2 A2 ∧ I r e2 A2)
    {N : Nat} {e : En} {A : Hs} (hN : xs.length < N) (h : I xs e A) : ∃ e' A', sFor s g b N 0 e A = .nx e' A' ∧ I [] e' A' := by
  suffices H : ∀ (r pre : List AV) (N : Nat) (e : En) (A : Hs), xs = pre ++ r → r.length < N → I r e A → ∃ e' A', sFor s g b N pre.length e A = .nx e' A' ∧ I [] e' A' from H xs [] N e A rfl hN h
  intro r
  induction r with
  | nil =>
    intro pre N e A hx hN h
    obtain ⟨N, rfl⟩ : ∃ M, N = M + 1 := ⟨N - 1, by simp at hN; omega⟩
    exact ⟨e, A, for_stop (by rw [hs, hx, at_end]), h⟩
  | cons x r ih =>
    intro pre N e A hx hN h
    obtain ⟨N, rfl⟩ : ∃ M, N = M + 1 := ⟨N - 1, by simp at hN; omega⟩
    obtain ⟨e1, e2, A2, h1, h2, h3⟩ := step x r e A h
    obtain ⟨e', A', h4, h5⟩ := ih (pre ++ [x]) N e2 A2 (by rw [hx]; simp) (by simp at hN; omega) h3
    refine ⟨e', A', ?_, h5⟩
    rw [for_step (by rw [hs, hx, at_app]) h1 h2]
    rw [← h4]
    simp
theorem for_seq {ci : CI} {N : Nat} {t : CS} {e : En} {A A1 : Hs} {r : RS} (s : Src) (xs : List AV) (I : List AV → En → Hs → Prop) (hi : ci e A = .ok s A1) (hs : ∀ A k, s.at A k = some xs[k]?) (hN : xs.length < N) (h : I xs e A1)
    (step : ∀ x r e A, I (x :: r) e A → ∃ e1 e2 A2, g x e A = .ok e1 A ∧ b e1 A = .nx e2 A2 ∧ I r e2 A2) (k : ∀ e' A', I [] e' A' → t e' A' = r) : sSeq (sForI ci g b N) t e A = r := by
  obtain ⟨e', A', h1, h2⟩ := for_items (b := b) I hs step hN h
  refine (seq_nx (e' := e') (A' := A') ?_).trans (k e' A' h2)
  unfold sForI
  rw [hi]
  exact h1
theorem for_last {ci : CI} {N : Nat} {e : En} {A A1 : Hs} (s : Src) (xs : List AV) (I : List AV → En → Hs → Prop) (hi : ci e A = .ok s A1) (hs : ∀ A k, s.at A k = some xs[k]?) (hN : xs.length < N) (h : I xs e A1)
    (step : ∀ x r e A, I (x :: r) e A → ∃ e1 e2 A2, g x e A = .ok e1 A ∧ b e1 A = .nx e2 A2 ∧ I r e2 A2) : ∃ e' A', sForI ci g b N e A = .nx e' A' ∧ I [] e' A' := by
  obtain ⟨e', A', h1, h2⟩ := for_items (b := b) I hs step hN h
  refine ⟨e', A', ?_, h2⟩
  unfold sForI
  rw [hi]
  exact h1
theorem at_rng {lo : Int} {n : Nat} (A : Hs) (k : Nat) : (Src.rng lo n).at A k = some (((List.range n).map fun i => AV.int (lo + (i : Nat)))[k]?) := by
  show (match Nat.blt k n with | true => _ | false => _) = _
  cases h : Nat.blt k n with
  | true =>
    have := blt_lt h
    simp [this]
  | false =>
    have := blt_ge h
    simp [this]
end
end Ev
namespace Ev
open PySem PySem.Spec PyProof.Rows L2
structure Enc (α : Type) [DecidableEq α] where
  av : α → AV
  dd : α → PyData
  dep : Nat
  h : ∀ n A x, dep ≤ n → dat n A (av x) = some (dd x)
  eqv : ∀ x y, PyData.eqv (dd x) (dd y) = decide (x = y)
  fz : ∀ x, isF (av x) = true
  own : ∀ A x, insOf A (av x) = none
section
variable {α β : Type} [DecidableEq α] [DecidableEq β]
def eI : Enc Int := ⟨.int, .int, 0, fun n A x _ => by cases n <;> rfl, fun x y => by rw [PyData.eqv, Bool.eq_iff_iff, decide_eq_true_iff, beq_iff_eq], fun _ => rfl, fun _ _ => rfl⟩
def eB : Enc Bool := ⟨.bl, .bool, 0, fun n A x _ => by cases n <;> rfl, fun x y => by rw [PyData.eqv, Bool.eq_iff_iff, decide_eq_true_iff, beq_iff_eq], fun _ => rfl, fun _ _ => rfl⟩
theorem optAll_enc (E : Enc α) {n : Nat} {A : Hs} (h : E.dep ≤ n) : ∀ xs : List α, optAll (dat n A) (xs.map E.av) = some (xs.map E.dd)
  | [] => rfl
  | x :: r => by
    rw [List.map_cons, List.map_cons]
    unfold optAll
    rw [E.h n A x h, optAll_enc E h r]
theorem eqvAll_enc (E : Enc α) : ∀ xs ys : List α, PyData.eqvAll (xs.map E.dd) (ys.map E.dd) = decide (xs = ys)
  | [], [] => by simp [PyData.eqvAll]
  | [], _ :: _ => by simp [PyData.eqvAll]
  | _ :: _, [] => by simp [PyData.eqvAll]
  | x :: xs, y :: ys => by
    rw [List.map_cons, List.map_cons, PyData.eqvAll, E.eqv, eqvAll_enc E xs ys]
    rw [Bool.eq_iff_iff]
    simp
def eL (E : Enc α) : Enc (List α) := ⟨fun xs => .lst (xs.map E.av), fun xs => .list (xs.map E.dd), E.dep + 1, fun n A x hn => by
    obtain ⟨m, rfl⟩ : ∃ m, n = m + 1 := ⟨n - 1, by omega⟩
    show (optAll (dat m A) (x.map E.av)).map PyData.list = _
    rw [optAll_enc E (by omega)]
    rfl, fun x y => by rw [PyData.eqv]; exact eqvAll_enc E x y, fun _ => rfl, fun _ _ => rfl⟩
def eT (E : Enc α) : Enc (List α) := ⟨fun xs => .tup (xs.map E.av), fun xs => .tuple (xs.map E.dd), E.dep + 1, fun n A x hn => by
    obtain ⟨m, rfl⟩ : ∃ m, n = m + 1 := ⟨n - 1, by omega⟩
    show (optAll (dat m A) (x.map E.av)).map PyData.tuple = _
    rw [optAll_enc E (by omega)]
    rfl, fun x y => by rw [PyData.eqv]; exact eqvAll_enc E x y, fun _ => rfl, fun _ _ => rfl⟩
def eP (E : Enc α) (E2 : Enc β) : Enc (α × β) := ⟨fun p => .tup [E.av p.1, E2.av p.2], fun p => .tuple [E.dd p.1, E2.dd p.2], max E.dep E2.dep + 1, fun n A x hn => by
    obtain ⟨m, rfl⟩ : ∃ m, n = m + 1 := ⟨n - 1, by omega⟩
    show (optAll (dat m A) [E.av x.1, E2.av x.2]).map PyData.tuple = _
    simp only [optAll]
    rw [E.h m A x.1 (by omega), E2.h m A x.2 (by omega)]
    rfl, fun x y => by
      rw [PyData.eqv, PyData.eqvAll, PyData.eqvAll, PyData.eqvAll, E.eqv, E2.eqv, Bool.eq_iff_iff]
      simp [Prod.ext_iff], fun _ => rfl, fun _ _ => rfl⟩
def eN (E : Enc α) (hn : ∀ x, PyData.eqv (E.dd x) .none = false ∧ PyData.eqv .none (E.dd x) = false) : Enc (Option α) := ⟨fun p => match p with | some x => E.av x | none => .non, fun p => match p with | some x => E.dd x | none => .none, E.dep, fun n A x hn => by
    cases x with
    | none => cases n <;> rfl
    | some x => exact E.h n A x hn, fun x y => by
      cases x <;> cases y
      · simp [PyData.eqv]
      · simp [(hn _).2]
      · simp [(hn _).1]
      · simp [E.eqv], fun x => by cases x; rfl; exact E.fz _, fun A x => by cases x; rfl; exact E.own A _⟩
theorem vEq_enc (E : Enc α) (hd : E.dep ≤ 40) (x y : α) (A : Hs) : vEq (E.av x) (E.av y) A = .ok (.bl (decide (x = y))) A := by
  unfold vEq on2D
  rw [E.h 40 A x hd, E.h 40 A y hd]
  dsimp only
  rw [E.eqv]
theorem vNe_enc (E : Enc α) (hd : E.dep ≤ 40) (x y : α) (A : Hs) : vNe (E.av x) (E.av y) A = .ok (.bl (!decide (x = y))) A := by
  unfold vNe on2D
  rw [E.h 40 A x hd, E.h 40 A y hd]
  dsimp only
  rw [E.eqv]
theorem eqO_enc (E : Enc α) (hd : E.dep ≤ 40) (call : CallT) (mt : Nat → Option Nat) (x y : α) (A : Hs) : vEqO call mt (E.av x) (E.av y) A = .ok (.bl (decide (x = y))) A := by
  unfold vEqO ownC
  rw [E.own]
  exact vEq_enc E hd x y A
theorem neO_enc (E : Enc α) (hd : E.dep ≤ 40) (call : CallT) (mt : Nat → Option Nat) (x y : α) (A : Hs) : vNeO call mt (E.av x) (E.av y) A = .ok (.bl (!decide (x = y))) A := by
  unfold vNeO ownC
  rw [E.own]
  exact vNe_enc E hd x y A
theorem any_enc (E : Enc α) (x : α) : ∀ xs : List α, ((xs.map E.dd).any fun z => PyData.eqv z (E.dd x)) = decide (x ∈ xs)
  | [] => by simp
  | y :: r => by
    rw [List.map_cons, List.any_cons, any_enc E x r, E.eqv, Bool.eq_iff_iff]
    simp only [Bool.or_eq_true, decide_eq_true_eq, List.mem_cons]
    exact or_congr_left eq_comm
theorem inO_lst (E : Enc α) (hd : E.dep ≤ 39) (call : CallT) (mt : Nat → Option Nat) (x : α) (xs : List α) (A : Hs) : vInO call mt (E.av x) (.lst (xs.map E.av)) A = .ok (.bl (decide (x ∈ xs))) A := by
  show vIn (E.av x) ((eL E).av xs) A = _
  unfold vIn on2D
  rw [E.h 40 A x (by omega), (eL E).h 40 A xs (by show E.dep + 1 ≤ 40; omega)]
  dsimp only [eL, inD]
  rw [any_enc]
theorem inO_tup (E : Enc α) (hd : E.dep ≤ 39) (call : CallT) (mt : Nat → Option Nat) (x : α) (xs : List α) (A : Hs) : vInO call mt (E.av x) (.tup (xs.map E.av)) A = .ok (.bl (decide (x ∈ xs))) A := by
  show vIn (E.av x) ((eT E).av xs) A = _
  unfold vIn on2D
  rw [E.h 40 A x (by omega), (eT E).h 40 A xs (by show E.dep + 1 ≤ 40; omega)]
  dsimp only [eT, inD]
  rw [any_enc]
theorem notInO_lst (E : Enc α) (hd : E.dep ≤ 39) (call : CallT) (mt : Nat → Option Nat) (x : α) (xs : List α) (A : Hs) : vNotInO call mt (E.av x) (.lst (xs.map E.av)) A = .ok (.bl (!decide (x ∈ xs))) A := by
  show vNotIn (E.av x) ((eL E).av xs) A = _
  unfold vNotIn on2D
  rw [E.h 40 A x (by omega), (eL E).h 40 A xs (by show E.dep + 1 ≤ 40; omega)]
  dsimp only [eL, inD]
  rw [any_enc]
theorem notInO_tup (E : Enc α) (hd : E.dep ≤ 39) (call : CallT) (mt : Nat → Option Nat) (x : α) (xs : List α) (A : Hs) : vNotInO call mt (E.av x) (.tup (xs.map E.av)) A = .ok (.bl (!decide (x ∈ xs))) A := by
  show vNotIn (E.av x) ((eT E).av xs) A = _
  unfold vNotIn on2D
  rw [E.h 40 A x (by omega), (eT E).h 40 A xs (by show E.dep + 1 ≤ 40; omega)]
  dsimp only [eT, inD]
  rw [any_enc]
def idxI (x : α) : List α → Nat → Option Nat
  | [], _ => none
  | z :: r, j => if z = x then some j else idxI x r (j + 1)
theorem allF_enc (E : Enc α) (xs : List α) : allF (xs.map E.av) = true := allF_iff.mpr fun x hx => by
  obtain ⟨y, _, rfl⟩ := List.mem_map.mp hx
  exact E.fz y
theorem intsOf_map (ns : List Int) : intsOf (ns.map AV.int) = some ns := by
  unfold intsOf
  induction ns with
  | nil => rfl
  | cons n r ih => rw [List.map_cons]; unfold optAll; rw [ih]; rfl
/-- the ints from a up to b -/
def rgI (a b : Int) : List Int := (List.range (b - a).toNat).map fun i => a + (i : Nat)
theorem rgI_len (a b : Int) : (rgI a b).length = (b - a).toNat := by simp [rgI]
theorem at_rngI {lo hi : Int} (A : Hs) (k : Nat) : (Src.rng lo (hi - lo).toNat).at A k = some (((rgI lo hi).map AV.int)[k]?) := by
  rw [at_rng]
  unfold rgI
  rw [List.map_map]
  rfl
end
section
variable {E : Enc Int}
theorem set_app {A : Hs} {x y : Cell} : (A ++ [x]).set A.length y = A ++ [y] := by simp
theorem get_app {A : Hs} {x : Cell} : (A ++ [x])[A.length]? = some x := by simp
end
section
variable {F : Nat → Option FnC} {n f np nl : Nat} {code : CallT → CS} {us : List AV} {A A' : Hs} {v : AV}
theorem call_nxS {e : En} (hF : F f = some ⟨np, nl, .fz, code⟩) (hl : us.length = np) (h : code (callF F n) (us ++ List.replicate (nl - np) .und) A = .nx e A') (hA : A'.length = A.length) : callF F (n + 1) f us A = .ok .non A' := by
  unfold callF
  rw [hF]
  dsimp only
  rw [hl, Nat.beq_refl]
  dsimp only [finM]
  rw [h, ← hA]
  exact fin1_same
/-- an object of such values -/
theorem fin1_O {A : Hs} {c : Nat} {xs : List AV} (ha : okA A = true) (hx : allF xs = true) : fin1 A.length (.ref A.length) (A ++ [.ins c xs]) = .ok (.obj c xs) A := by
  unfold fin1
  cases e : Nat.beq (A ++ [Cell.ins c xs]).length A.length with
  | true =>
    have := Nat.eq_of_beq_eq_true e
    simp at this
  | false =>
    dsimp only
    have e1 : Nat.blt A.length A.length = false := by
      cases z : Nat.blt A.length A.length with
      | false => rfl
      | true => have := blt_lt z; omega
    have e2 : Nat.beq A.length (A ++ [Cell.ins c xs]).length = false := by
      cases z : Nat.beq A.length (A ++ [Cell.ins c xs]).length with
      | false => rfl
      | true => have := Nat.eq_of_beq_eq_true z; simp at this
    have h' := allF_iff.mp hx
    have e4 : ∀ (xs : List AV), (∀ x ∈ xs, isF x = true) → optAll (onU (fzV A.length (A ++ [Cell.ins c xs]).length (A ++ [Cell.ins c xs]) 7)) xs = some xs := fun xs => by
      suffices H : ∀ B : Hs, (∀ x ∈ xs, isF x = true) → optAll (onU (fzV A.length B.length B 7)) xs = some xs from H _
      intro B
      induction xs with
      | nil => intro _; rfl
      | cons x r ih =>
        intro h
        unfold optAll
        have hx := h x List.mem_cons_self
        rw [onU_of (by rintro rfl; cases hx), fzV_F hx, ih fun y hy => h y (List.mem_cons_of_mem _ hy)]
    have e5 : (xs.all fun y => match y with | .und => true | y => isF y) = true := List.all_eq_true.mpr fun y hy => by
      have := h' y hy
      cases y <;> first | rfl | exact this
    have e3 : fzV A.length (A ++ [Cell.ins c xs]).length (A ++ [.ins c xs]) 8 (.ref A.length) = some (.obj c xs) := by
      unfold fzV
      dsimp only
      rw [e1]
      dsimp only
      rw [e2]
      dsimp only
      rw [get_app]
      dsimp only
      rw [e4 xs h']
      dsimp only
      exact congrArg (fun b => pick b (some (AV.obj c xs)) none) e5
    rw [e3, take_app]
    show pick (A.all (lowC A.length)) _ _ = _
    rw [show A.all (lowC A.length) = true from ha]
    rfl
end
section
variable {s : Src} {g : CG} {b : CS} {ct te : CE} {α : Type} {ci : CI} {vs : List Nat} {e : En} {A A1 A2 : Hs} {r : R} {k : List AV → Hs → R}
theorem lc_map {e0 : En} (av : α → AV) (l : List α) (t : α → Bool) (f : α → AV) (hs : ∀ k, s.at A k = some (l.map av)[k]?)
    (h : ∀ x ∈ l, ∃ e1, g (av x) e0 A = .ok e1 A ∧ ct e1 A = .ok (.bl (t x)) A ∧ (t x = true → te e1 A = .ok (f x) A)) {N : Nat} (hN : l.length < N) : lcGo s g ct te e0 N 0 [] A = .ok ((l.filter t).map f) A := by
  suffices H : ∀ (r pre : List α) (acc : List AV) (N : Nat), l = pre ++ r → r.length < N → lcGo s g ct te e0 N pre.length acc A = .ok (acc.reverse ++ (r.filter t).map f) A from H l [] [] N rfl hN
  intro r
  induction r with
  | nil =>
    intro pre acc N hx hN
    obtain ⟨N, rfl⟩ : ∃ M, N = M + 1 := ⟨N - 1, by simp at hN; omega⟩
    unfold lcGo
    rw [hs, hx]
    simp
  | cons x r ih =>
    intro pre acc N hx hN
    obtain ⟨N, rfl⟩ : ∃ M, N = M + 1 := ⟨N - 1, by simp at hN; omega⟩
    obtain ⟨e1, h1, h2, h3⟩ := h x (by rw [hx]; simp)
    unfold lcGo
    rw [hs, List.getElem?_map, hx, at_app, Option.map_some]
    dsimp only
    rw [h1]
    dsimp only
    rw [h2]
    dsimp only
    cases ht : t x with
    | true =>
      rw [h3 ht]
      show lcGo s g ct te e0 N (pre.length + 1) (f x :: acc) A = _
      have := ih (pre ++ [x]) (f x :: acc) N (by rw [hx]; simp) (by simp at hN; omega)
      rw [List.length_append] at this
      rw [show pre.length + 1 = pre.length + [x].length from rfl, this]
      simp [ht]
    | false =>
      show lcGo s g ct te e0 N (pre.length + 1) acc A = _
      have := ih (pre ++ [x]) acc N (by rw [hx]; simp) (by simp at hN; omega)
      rw [List.length_append] at this
      rw [show pre.length + 1 = pre.length + [x].length from rfl, this]
      simp [ht]
theorem lck_map (av : α → AV) (l : List α) (t : α → Bool) (f : α → AV) (s : Src) (hi : ci e A = .ok s A1) (hs : ∀ k, s.at A1 k = some (l.map av)[k]?) (hN : l.length < 100000)
    (h : ∀ x ∈ l, ∃ e1, g (av x) (wipeE e vs) A1 = .ok e1 A1 ∧ ct e1 A1 = .ok (.bl (t x)) A1 ∧ (t x = true → te e1 A1 = .ok (f x) A1)) (hk : k ((l.filter t).map f) A1 = r) : cLCk k ci g ct te vs e A = r := by
  unfold cLCk
  rw [hi]
  dsimp only
  rw [lc_map av l t f hs h hN]
  exact hk
theorem irg_ok {lo hi : CE} {i j : Int} (h1 : lo e A = .ok (.int i) A1) (h2 : hi e A1 = .ok (.int j) A2) (b1 : -4611686018427387904 ≤ i) (b2 : i < 4611686018427387904) (b3 : -4611686018427387904 ≤ j) (b4 : j < 4611686018427387904) : iRg lo hi e A = .ok (.rng i (j - i).toNat) A2 := by
  unfold iRg
  rw [h1]
  dsimp only
  rw [h2]
  dsimp only
  rw [decide_eq_true b1, decide_eq_true b2, decide_eq_true b3, decide_eq_true b4]
  rfl
theorem kLst_ok {xs : List AV} (h : allF xs = true) : kLst xs A = .ok (.lst xs) A := by
  unfold kLst
  rw [h]
  rfl
end
end Ev
namespace Ev
open PySem PySem.Spec PyProof.Rows L2
section
variable {call : CallT} {mt : Nat → Option Nat}
def inR (lo x hi : Int) : Bool := decide (lo ≤ x) && decide (x ≤ hi)
theorem inR_t {lo x hi : Int} (h1 : lo ≤ x) (h2 : x ≤ hi) : inR lo x hi = true := by simp [inR, h1, h2]
theorem eq_ii (x y : Int) (A : Hs) : vEqO call mt (.int x) (.int y) A = .ok (.bl (decide (x = y))) A := eqO_enc eI (by decide) call mt x y A
theorem ne_ii (x y : Int) (A : Hs) : vNeO call mt (.int x) (.int y) A = .ok (.bl (!decide (x = y))) A := neO_enc eI (by decide) call mt x y A
theorem ne_l0 (x : List Int) (A : Hs) : vNeO call mt (.lst (x.map .int)) (.lst []) A = .ok (.bl (!decide (x = []))) A := neO_enc (eL eI) (by decide) call mt x [] A
theorem ne_ll (x y : List Int) (A : Hs) : vNeO call mt (.lst (x.map .int)) (.lst (y.map .int)) A = .ok (.bl (!decide (x = y))) A := neO_enc (eL eI) (by decide) call mt x y A
theorem in_il (x : Int) (y : List Int) (A : Hs) : vInO call mt (.int x) (.lst (y.map .int)) A = .ok (.bl (decide (x ∈ y))) A := inO_lst eI (by decide) call mt x y A
theorem in_it (x : Int) (y : List Int) (A : Hs) : vInO call mt (.int x) (.tup (y.map .int)) A = .ok (.bl (decide (x ∈ y))) A := inO_tup eI (by decide) call mt x y A
def avT (t : List Int) : AV := .tup (t.map .int)
theorem last_ok (ps : List Int) (x : Int) (h : ps.getLast? = some x) (A : Hs) : vIxO call mt (.lst (ps.map .int)) (.int (-1)) A = .ok (.int x) A := by
  obtain ⟨q, rfl⟩ := List.getLast?_eq_some_iff.mp h
  have e : ixN ((q ++ [x]).map AV.int).length (-1) = some q.length := by
    unfold ixN
    simp
    omega
  simp only [List.replicate, Nat.sub_self, Nat.reduceSub, List.append_nil, List.nil_append, List.cons_append, cAnd, cOr, cBin, cUn, cVar, cC, cNot, cIf, cChain, R.bind, RA.bind, dA, List.map_nil, List.getElem?_cons_zero, List.getElem?_cons_succ, List.set_cons_zero, List.set_cons_succ, vIsiC, vIsi, tyA, onB, onBS, pick, Ty.sub, vLe, vLt, vGt, vGe, vAdd, vSub, vMul, vFDiv, vMod, on2I, vNeg, guard', cCall, cMeth, cArgs, aNil, aCons, aApp, cFld, vFld, insOf, cTup, cLst, cLstM, vIntB, vInt, cNu, cTri, cUnd, cRg, kTupA, vIxO, ownC, vIx, seqOf, sqlOf, lstOf, atA, e, Option.bind_some]
  simp
theorem isL_app {A : Hs} {xs : List AV} : isL (A ++ [.lst xs]) (.ref A.length) = true := by
  unfold isL sqlOf lstOf
  dsimp only
  rw [get_app]
  rfl
theorem ext_ok {A : Hs} {xs ys : List AV} (h : xs.length + ys.length ≤ 16777216) : vExtend (.ref A.length) [.lst ys] (A ++ [.lst xs]) = .ok .non (A ++ [.lst (xs ++ ys)]) := by
  unfold vExtend
  dsimp only [lstOf, onCell]
  rw [get_app]
  dsimp only
  rw [set_app, show line (xs.length + ys.length) = true from Nat.ble_eq_true_of_le h]
  rfl
theorem iown_tup {ix : Nat → Option Nat} {c : CE} {e : En} {A A1 : Hs} {xs : List AV} (h : c e A = .ok (.tup xs) A1) : iOwn ix c e A = .ok (.tup xs) A1 := by
  unfold iOwn
  rw [h]
  rfl
def cellsN (ns : List Int) : List Int := match decide (ns = []) with
  | true => [5]
  | false => ns
theorem cells_len {ns : List Int} (h : ns.length ≤ 63) : 0 < (cellsN ns).length ∧ (cellsN ns).length ≤ 63 := by
  unfold cellsN
  by_cases hn : ns = []
  · rw [decide_eq_true hn]; exact ⟨Nat.zero_lt_one, show 1 ≤ 63 by decide⟩
  · rw [decide_eq_false hn]
    exact ⟨List.length_pos_iff.mpr hn, h⟩
theorem cut63 (ns : List Int) (h : ns.length ≤ 63) : cutA (ns.map AV.int) none (some 63) = ns.map AV.int := by
  unfold cutA
  simp only [HT.sIx, List.length_map]
  rw [if_neg (by decide), List.drop_zero, List.take_of_length_le]
  simp
  omega
theorem mulOk_l {a b : Int} (h1 : -18446744073709551616 < a) (h2 : a < 18446744073709551616) : mulOk a b = true := by simp [mulOk, h1, h2]
theorem mulOk_r {a b : Int} (h1 : -18446744073709551616 < b) (h2 : b < 18446744073709551616) : mulOk a b = true := by simp [mulOk, h1, h2]
def blN (d i s : Int) : Int := ((d % 1000003 + 977 * i) * 48271 + 31 * (d / 1000003 % 999983) + s % 65521) % 2147483647
def outN (d i s : Int) : Int := blN d i s * (blN d i s + 31 * i + 7) % 2147483629 * 65537 + d / 1000003 % 999983
theorem ix_nat {α : Type} (av : α → AV) (hav : ∀ x, av x ≠ .und) (l : List α) (i : Nat) (x : α) (h : l[i]? = some x) (call : CallT) (mt : Nat → Option Nat) (A : Hs) : vIxO call mt (.lst (l.map av)) (.int i) A = .ok (av x) A := by
  have hlt := (List.getElem?_eq_some_iff.mp h).1
  have e : ixN (l.map av).length (i : Int) = some i := by
    unfold ixN
    rw [if_pos (by omega), if_pos (by rw [List.length_map]; omega)]
    rfl
  simp only [List.replicate, Nat.sub_self, Nat.reduceSub, List.append_nil, List.nil_append, List.cons_append, cAnd, cOr, cBin, cUn, cVar, cC, cNot, cIf, cChain, R.bind, RA.bind, dA, List.map_nil, List.getElem?_cons_zero, List.getElem?_cons_succ, List.set_cons_zero, List.set_cons_succ, vIsiC, vIsi, tyA, onB, onBS, pick, Ty.sub, vLe, vLt, vGt, vGe, vAdd, vSub, vMul, vFDiv, vMod, on2I, vNeg, guard', cCall, cMeth, cArgs, aNil, aCons, aApp, cFld, vFld, insOf, cTup, cLst, cLstM, vIntB, vInt, cNu, cTri, cUnd, cRg, kTupA, vIxO, ownC, vIx, seqOf, sqlOf, lstOf, atA, e, Option.bind_some, List.getElem?_map, h, Option.map_some]
  have := hav x
  cases hx : av x <;> first | rfl | exact absurd hx this
theorem allI (xs : List Int) : allF (xs.map AV.int) = true := allF_enc eI xs
theorem eq_ll (x y : List Int) (A : Hs) : vEqO call mt (.lst (x.map .int)) (.lst (y.map .int)) A = .ok (.bl (decide (x = y))) A := eqO_enc (eL eI) (by decide) call mt x y A
theorem eq_tt (x y : List Int) (A : Hs) : vEqO call mt (avT x) (avT y) A = .ok (.bl (decide (x = y))) A := eqO_enc (eT eI) (by decide) call mt x y A
theorem ne_tt (x y : List Int) (A : Hs) : vNeO call mt (avT x) (avT y) A = .ok (.bl (!decide (x = y))) A := neO_enc (eT eI) (by decide) call mt x y A
theorem len_l {α : Type} (f : α → AV) (l : List α) (A : Hs) : vLenO call mt (.lst (l.map f)) A = .ok (.int l.length) A := by
  simp only [List.replicate, Nat.sub_self, Nat.reduceSub, List.append_nil, List.nil_append, List.cons_append, cAnd, cOr, cBin, cUn, cVar, cC, cNot, cIf, cChain, R.bind, RA.bind, dA, List.map_nil, List.getElem?_cons_zero, List.getElem?_cons_succ, List.set_cons_zero, List.set_cons_succ, vIsiC, vIsi, tyA, onB, onBS, pick, Ty.sub, vLe, vLt, vGt, vGe, vAdd, vSub, vMul, vFDiv, vMod, on2I, vNeg, guard', cCall, cMeth, cArgs, aNil, aCons, aApp, cFld, vFld, insOf, cTup, cLst, cLstM, vIntB, vInt, cNu, cTri, cUnd, cRg, kTupA, vLenO, ownC, vLen, seqOf, sqlOf, lstOf, List.length_map]
theorem len_t {α : Type} (f : α → AV) (l : List α) (A : Hs) : vLenO call mt (.tup (l.map f)) A = .ok (.int l.length) A := by
  simp only [List.replicate, Nat.sub_self, Nat.reduceSub, List.append_nil, List.nil_append, List.cons_append, cAnd, cOr, cBin, cUn, cVar, cC, cNot, cIf, cChain, R.bind, RA.bind, dA, List.map_nil, List.getElem?_cons_zero, List.getElem?_cons_succ, List.set_cons_zero, List.set_cons_succ, vIsiC, vIsi, tyA, onB, onBS, pick, Ty.sub, vLe, vLt, vGt, vGe, vAdd, vSub, vMul, vFDiv, vMod, on2I, vNeg, guard', cCall, cMeth, cArgs, aNil, aCons, aApp, cFld, vFld, insOf, cTup, cLst, cLstM, vIntB, vInt, cNu, cTri, cUnd, cRg, kTupA, vLenO, ownC, vLen, seqOf, List.length_map]
theorem ix_natT {α : Type} (av : α → AV) (hav : ∀ x, av x ≠ .und) (l : List α) (i : Nat) (x : α) (h : l[i]? = some x) (A : Hs) : vIxO call mt (.tup (l.map av)) (.int i) A = .ok (av x) A := by
  have hlt := (List.getElem?_eq_some_iff.mp h).1
  have e : ixN (l.map av).length (i : Int) = some i := by
    unfold ixN
    rw [if_pos (by omega), if_pos (by rw [List.length_map]; omega)]
    rfl
  simp only [List.replicate, Nat.sub_self, Nat.reduceSub, List.append_nil, List.nil_append, List.cons_append, cAnd, cOr, cBin, cUn, cVar, cC, cNot, cIf, cChain, R.bind, RA.bind, dA, List.map_nil, List.getElem?_cons_zero, List.getElem?_cons_succ, List.set_cons_zero, List.set_cons_succ, vIsiC, vIsi, tyA, onB, onBS, pick, Ty.sub, vLe, vLt, vGt, vGe, vAdd, vSub, vMul, vFDiv, vMod, on2I, vNeg, guard', cCall, cMeth, cArgs, aNil, aCons, aApp, cFld, vFld, insOf, cTup, cLst, cLstM, vIntB, vInt, cNu, cTri, cUnd, cRg, kTupA, vIxO, ownC, vIx, seqOf, atA, e, Option.bind_some, List.getElem?_map, h, Option.map_some]
  have := hav x
  cases hx : av x <;> first | rfl | exact absurd hx this
end
theorem par_ok {i j : Nat} {a : CA} {e : En} {A A' : Hs} {v w : AV} (h : a e A = .ok [v, w] A') : sPar [i, j] a e A = .nx ((e.set i v).set j w) A' := by
  unfold sPar
  rw [h]
theorem par3_ok {i j k : Nat} {a : CA} {e : En} {A A' : Hs} {u v w : AV} (h : a e A = .ok [u, v, w] A') : sPar [i, j, k] a e A = .nx (((e.set i u).set j v).set k w) A' := by
  unfold sPar
  rw [h]
def enuP (ns : List Int) : List (Nat × Int) := (List.range ns.length).map fun k => (k, ns.getD k 0)
def avP (p : Nat × Int) : AV := .tup [.int p.1, .int p.2]
theorem enuP_get (ns : List Int) (k : Nat) : (enuP ns)[k]? = ns[k]?.map fun x => (k, x) := by
  unfold enuP
  rw [List.getElem?_map]
  by_cases h : k < ns.length
  · rw [List.getElem?_range h, List.getElem?_eq_getElem h]
    simp [List.getD_eq_getElem?_getD, List.getElem?_eq_getElem h]
  · rw [List.getElem?_eq_none (by simpa using h), List.getElem?_eq_none (by simpa using h)]
    rfl
theorem at_enuT (ns : List Int) (A : Hs) (k : Nat) : (Src.enuT (ns.map .int)).at A k = some ((enuP ns).map avP)[k]? := by
  show (match (ns.map AV.int)[k]? with | some v => some (some (mkT [.int (k : Nat), v])) | none => some none) = _
  rw [List.getElem?_map, List.getElem?_map, enuP_get]
  cases ns[k]? <;> rfl
theorem at_enuL (ns : List Int) (A : Hs) (k : Nat) : (Src.enuL (.lst (ns.map .int))).at A k = some ((enuP ns).map avP)[k]? := by
  show (match (ns.map AV.int)[k]? with | some v => some (some (mkT [.int (k : Nat), v])) | none => some none) = _
  rw [List.getElem?_map, List.getElem?_map, enuP_get]
  cases ns[k]? <;> rfl
/-- a sequence of ints, as a tuple or as a list that stays -/
def Sq (x : AV) (ns : List Int) : Prop := x = .tup (ns.map .int) ∨ x = .lst (ns.map .int)
theorem Sq.enu {x : AV} {ns : List Int} (h : Sq x ns) {c : CE} {e : En} {A A1 : Hs} (hc : c e A = .ok x A1) : ∃ s, iEnu c e A = .ok s A1 ∧ ∀ B k, s.at B k = some ((enuP ns).map avP)[k]? := by
  rcases h with rfl | rfl
  · exact ⟨_, by unfold iEnu; rw [hc]; rfl, fun B k => at_enuT ns B k⟩
  · exact ⟨_, by unfold iEnu; rw [hc]; rfl, fun B k => at_enuL ns B k⟩
theorem Sq.own {x : AV} {ns : List Int} (h : Sq x ns) {ix : Nat → Option Nat} {c : CE} {e : En} {A A1 : Hs} (hc : c e A = .ok x A1) : ∃ s, iOwn ix c e A = .ok s A1 ∧ ∀ B k, s.at B k = some (ns.map AV.int)[k]? := by
  rcases h with rfl | rfl
  · exact ⟨.tup (ns.map .int), by unfold iOwn; rw [hc]; rfl, fun B k => rfl⟩
  · exact ⟨.lst (.lst (ns.map .int)), by unfold iOwn; rw [hc]; rfl, fun B k => rfl⟩
theorem Sq.len {x : AV} {ns : List Int} (h : Sq x ns) {call : CallT} {mt : Nat → Option Nat} (A : Hs) : vLenO call mt x A = .ok (.int ns.length) A := by
  rcases h with rfl | rfl
  · exact len_t AV.int ns A
  · exact len_l AV.int ns A
theorem Sq.fz {x : AV} {ns : List Int} (h : Sq x ns) : isF x = true := by
  rcases h with rfl | rfl <;> rfl
theorem Sq.var {x : AV} {ns : List Int} (h : Sq x ns) {e : En} {A : Hs} {i : Nat} (he : e[i]? = some x) : cVar i e A = .ok x A := by
  unfold cVar
  rw [he]
  rcases h with rfl | rfl <;> rfl
theorem Sq.ix {x : AV} {ns : List Int} (h : Sq x ns) {call : CallT} {mt : Nat → Option Nat} (i : Nat) (y : Int) (hy : ns[i]? = some y) (A : Hs) : vIxO call mt x (.int i) A = .ok (.int y) A := by
  rcases h with rfl | rfl
  · exact ix_natT AV.int (fun _ z => by cases z) ns i y hy A
  · exact ix_nat AV.int (fun _ z => by cases z) ns i y hy call mt A
/-- x[:k] -/
theorem cut_take (ns : List Int) (k : Nat) : cutA (ns.map AV.int) none (some (k : Int)) = (ns.take k).map AV.int := by
  unfold cutA
  simp only [HT.sIx_none, HT.sIx_nat, List.length_map, List.drop_zero, Nat.sub_zero]
  rw [← List.map_take]
  congr 1
  rcases Nat.le_total k ns.length with h | h
  · rw [Nat.min_eq_left h]
  · rw [Nat.min_eq_right h, List.take_length, List.take_of_length_le h]
theorem Sq.take {x : AV} {ns : List Int} (h : Sq x ns) (k : Nat) (A : Hs) : ∃ y, vSl x .und (.int k) A = .ok y A ∧ Sq y (ns.take k) := by
  rcases h with rfl | rfl
  · refine ⟨.tup ((ns.take k).map .int), ?_, .inl rfl⟩
    show R.ok (.tup (cutA (ns.map AV.int) none (some (k : Int)))) A = _
    rw [cut_take]
  · refine ⟨.lst ((ns.take k).map .int), ?_, .inr rfl⟩
    show guard' (allF (ns.map AV.int)) (R.ok (.lst (cutA (ns.map AV.int) none (some (k : Int)))) A) = _
    rw [cut_take, show allF (ns.map AV.int) = true from allF_enc eI ns]
    rfl
end Ev
namespace Ev
open PySem PySem.Spec PyProof.Rows L2
section
variable {F : Nat → Option FnC} {n f np nl : Nat} {code : CallT → CS} {us : List AV} {A A' : Hs} {v : AV}
/-- a def that changes what it is handed, and makes nothing -/
theorem call_rtS (hF : F f = some ⟨np, nl, .fz, code⟩) (hl : us.length = np) (h : code (callF F n) (us ++ List.replicate (nl - np) .und) A = .rt v A') (hA : A'.length = A.length) : callF F (n + 1) f us A = .ok v A' := by
  unfold callF
  rw [hF]
  dsimp only
  rw [hl, Nat.beq_refl]
  dsimp only [finM]
  rw [h, ← hA]
  exact fin1_same
theorem call_rtLB {B : Hs} {i : Nat} {xs : List AV} (hF : F f = some ⟨np, nl, .fz, code⟩) (hl : us.length = np) (ha : okA A' = true) (hA : A'.length = A.length) (hi : A'.length ≤ i) (hB : (A' ++ B)[i]? = some (.lst xs)) (hx : allF xs = true)
    (h : code (callF F n) (us ++ List.replicate (nl - np) .und) A = .rt (.ref i) (A' ++ B)) : callF F (n + 1) f us A = .ok (.lst xs) A' := by
  unfold callF
  rw [hF]
  dsimp only
  rw [hl, Nat.beq_refl]
  dsimp only [finM]
  rw [h, ← hA]
  exact fin1_L ha hi hB hx
end
section
variable {s : Src} {g g1 : CG} {b : CS} {ct ct1 te : CE} {xs : List AV}
/-- a comprehension whose parts change cells: told by I -/
theorem lc_inv {e0 : En} (I : List AV → List AV → Hs → Prop) (hs : ∀ A k, s.at A k = some xs[k]?) (step : ∀ x r acc A, I (x :: r) acc A → ∃ e1, g x e0 A = .ok e1 A ∧ ∃ y A2, te e1 A = .ok y A2 ∧ I r (y :: acc) A2)
    {N : Nat} {A : Hs} (hN : xs.length < N) (h : I xs [] A) : ∃ acc A', lcGo s g (cC (.bl true)) te e0 N 0 [] A = .ok acc.reverse A' ∧ I [] acc A' := by
  suffices H : ∀ (r pre acc : List AV) (N : Nat) (A : Hs), xs = pre ++ r → r.length < N → I r acc A → ∃ acc' A', lcGo s g (cC (.bl true)) te e0 N pre.length acc A = .ok acc'.reverse A' ∧ I [] acc' A' from H xs [] [] N A rfl hN h
  intro r
  induction r with
  | nil =>
    intro pre acc N A hx hN h
    obtain ⟨N, rfl⟩ : ∃ M, N = M + 1 := ⟨N - 1, by simp at hN; omega⟩
    refine ⟨acc, A, ?_, h⟩
    unfold lcGo
    rw [hs, hx, at_end]
  | cons x r ih =>
    intro pre acc N A hx hN h
    obtain ⟨N, rfl⟩ : ∃ M, N = M + 1 := ⟨N - 1, by simp at hN; omega⟩
    obtain ⟨e1, h1, y, A2, h2, h3⟩ := step x r acc A h
    obtain ⟨acc', A', h4, h5⟩ := ih (pre ++ [x]) (y :: acc) N A2 (by rw [hx]; simp) (by simp at hN; omega) h3
    refine ⟨acc', A', ?_, h5⟩
    unfold lcGo
    rw [hs, hx, at_app]
    dsimp only
    rw [h1]
    dsimp only [cC, pick]
    rw [h2]
    dsimp only
    rw [← h4]
    simp
theorem lck_inv {ci : CI} {vs : List Nat} {e : En} {A A1 : Hs} {k : List AV → Hs → R} (s : Src) (xs : List AV) (I : List AV → List AV → Hs → Prop) (hi : ci e A = .ok s A1) (hs : ∀ A k, s.at A k = some xs[k]?) (hN : xs.length < 100000) (h : I xs [] A1)
    (step : ∀ x r acc A, I (x :: r) acc A → ∃ e1, g x (wipeE e vs) A = .ok e1 A ∧ ∃ y A2, te e1 A = .ok y A2 ∧ I r (y :: acc) A2) : ∃ (acc : List AV) (A' : Hs), cLCk k ci g (cC (.bl true)) te vs e A = k acc.reverse A' ∧ I [] acc A' := by
  obtain ⟨acc, A', h1, h2⟩ := lc_inv (g := g) (te := te) (e0 := wipeE e vs) I hs step hN h
  refine ⟨acc, A', ?_, h2⟩
  unfold cLCk
  rw [hi]
  dsimp only
  rw [h1]
  rfl
variable {α β : Type}
theorem lcIn_map {e0 : En} {A : Hs} (av : β → AV) (l : List β) (t : β → Bool) (f : β → AV) (hs : ∀ k, s.at A k = some (l.map av)[k]?)
    (h : ∀ x ∈ l, ∃ e1, g (av x) e0 A = .ok e1 A ∧ ct e1 A = .ok (.bl (t x)) A ∧ (t x = true → te e1 A = .ok (f x) A)) {N : Nat} (hN : l.length < N) (acc : List AV) (c : Nat) (hc : c + l.length ≤ 16777216) :
    lcIn s g ct te e0 N 0 acc c A = (.ok (((l.filter t).map f).reverse ++ acc) A, c + (l.filter t).length) := by
  suffices H : ∀ (r pre : List β) (acc : List AV) (c N : Nat), l = pre ++ r → r.length < N → c + r.length ≤ 16777216 → lcIn s g ct te e0 N pre.length acc c A = (.ok (((r.filter t).map f).reverse ++ acc) A, c + (r.filter t).length) from H l [] acc c N rfl hN hc
  intro r
  induction r with
  | nil =>
    intro pre acc c N hx hN hc
    obtain ⟨N, rfl⟩ : ∃ M, N = M + 1 := ⟨N - 1, by simp at hN; omega⟩
    unfold lcIn
    rw [hs, hx]
    simp
  | cons x r ih =>
    intro pre acc c N hx hN hc
    obtain ⟨N, rfl⟩ : ∃ M, N = M + 1 := ⟨N - 1, by simp at hN; omega⟩
    obtain ⟨e1, h1, h2, h3⟩ := h x (by rw [hx]; simp)
    rw [List.length_cons] at hN hc
    unfold lcIn
    rw [hs, List.getElem?_map, hx, at_app, Option.map_some]
    dsimp only
    rw [h1]
    dsimp only
    rw [h2]
    dsimp only
    cases ht : t x with
    | true =>
      rw [h3 ht]
      show pick (Nat.blt c 16777216) (lcIn s g ct te e0 N (pre.length + 1) (f x :: acc) (c + 1) A) (.bad, c) = _
      rw [show Nat.blt c 16777216 = true from Nat.ble_eq_true_of_le (by omega)]
      show lcIn s g ct te e0 N (pre.length + 1) (f x :: acc) (c + 1) A = _
      have := ih (pre ++ [x]) (f x :: acc) (c + 1) N (by rw [hx]; simp) (by omega) (by omega)
      rw [List.length_append] at this
      rw [show pre.length + 1 = pre.length + [x].length from rfl, this, List.filter_cons_of_pos ht]
      simp
      omega
    | false =>
      show lcIn s g ct te e0 N (pre.length + 1) acc c A = _
      have := ih (pre ++ [x]) acc c N (by rw [hx]; simp) (by omega) (by omega)
      rw [List.length_append] at this
      rw [show pre.length + 1 = pre.length + [x].length from rfl, this, List.filter_cons_of_neg (by simp [ht])]
/-- two fors -/
theorem lc2_map {e : En} {A A1 : Hs} {ci ci1 : CI} {vs vs1 : List Nat} {k : List AV → Hs → R} {r : R} (av : α → AV) (l : List α) (av1 : α → β → AV) (m : α → List β) (t : α → β → Bool) (f : α → β → AV) (s : Src) (hi : ci e A = .ok s A1) (hs : ∀ k, s.at A1 k = some (l.map av)[k]?) (hN : l.length < 100000)
    (h : ∀ x ∈ l, ∃ e1 s1, g (av x) (wipeE e vs) A1 = .ok e1 A1 ∧ ci1 e1 A1 = .ok s1 A1 ∧ (∀ k, s1.at A1 k = some ((m x).map (av1 x))[k]?) ∧ (m x).length ≤ 100 ∧
      ∀ y ∈ m x, ∃ e2, g1 (av1 x y) (wipeE e1 vs1) A1 = .ok e2 A1 ∧ ct1 e2 A1 = .ok (.bl (t x y)) A1 ∧ (t x y = true → te e2 A1 = .ok (f x y) A1))
    (hl : l.length ≤ 1000) (hk : k (l.flatMap fun x => ((m x).filter (t x)).map (f x)) A1 = r) : cLC2k k ci g (cC (.bl true)) ci1 g1 ct1 te vs vs1 e A = r := by
  suffices H : ∀ (r pre : List α) (acc : List AV) (c N : Nat), l = pre ++ r → r.length < N → c + 100 * r.length ≤ 16777216 → lcOut s g (cC (.bl true)) ci1 g1 ct1 te (wipeE e vs) vs1 N pre.length acc c A1 = .ok (acc.reverse ++ r.flatMap fun x => ((m x).filter (t x)).map (f x)) A1 by
    unfold cLC2k
    rw [hi]
    dsimp only
    rw [show lcOut s g (cC (.bl true)) ci1 g1 ct1 te (wipeE e vs) vs1 100000 0 [] 0 A1 = _ from H l [] [] 0 100000 rfl hN (by omega)]
    exact hk
  intro r
  induction r with
  | nil =>
    intro pre acc c N hx hN hc
    obtain ⟨N, rfl⟩ : ∃ M, N = M + 1 := ⟨N - 1, by simp at hN; omega⟩
    unfold lcOut
    rw [hs, hx]
    simp
  | cons x r ih =>
    intro pre acc c N hx hN hc
    obtain ⟨N, rfl⟩ : ∃ M, N = M + 1 := ⟨N - 1, by simp at hN; omega⟩
    obtain ⟨e1, s1, h1, h2, h3, h4, h5⟩ := h x (by rw [hx]; simp)
    rw [List.length_cons] at hN hc
    unfold lcOut
    rw [hs, List.getElem?_map, hx, at_app, Option.map_some]
    dsimp only
    rw [h1]
    dsimp only [cC, pick]
    rw [h2]
    dsimp only
    rw [lcIn_map (av1 x) (m x) (t x) (f x) h3 h5 (by omega) acc c (by omega)]
    dsimp only
    have := ih (pre ++ [x]) ((((m x).filter (t x)).map (f x)).reverse ++ acc) (c + ((m x).filter (t x)).length) N (by rw [hx]; simp) (by omega) (by
      have := List.length_filter_le (t x) (m x)
      omega)
    rw [List.length_append] at this
    rw [show pre.length + 1 = pre.length + [x].length from rfl]
    refine this.trans ?_
    simp
end
end Ev
namespace Ev
open PySem PySem.Spec PyProof.Rows L2
section
variable {s : Src} {g : CG} {b : CS} {α : Type}
end
end Ev
namespace Ev
open PySem PySem.Spec PyProof.Rows L2
/-- a row of ranks -/
structure Ord (ns : List Int) : Prop where
  nd : ns.Nodup
  rg : ∀ x ∈ ns, 0 ≤ x ∧ x < ns.length
theorem seq_sq {x : AV} {ns : List Int} (h : Sq x ns) (A : Hs) : seqOf A x = some (ns.map .int) := by
  rcases h with rfl | rfl <;> rfl
theorem sortA_ints : ∀ ns : List Int, sortA (ns.map AV.int) = some ((srtB iLe ns).map AV.int)
  | [] => rfl
  | [x] => rfl
  | x :: y :: r => by
    show (match intsOf ((x :: y :: r).map AV.int) with | some ns => some ((srtB iLe ns).map AV.int) | none => _) = _
    rw [intsOf_map]
theorem sorted_ok {x : AV} {ns : List Int} (h : Sq x ns) (A : Hs) : vSorted x A = .ok (.lst ((srtB iLe ns).map .int)) A := by
  unfold vSorted
  rw [seq_sq h]
  dsimp only
  rw [sortA_ints]
end Ev
namespace Ev
open PySem PySem.Spec PyProof.Rows L2
theorem isi_sq {x : AV} {ns : List Int} (h : Sq x ns) (ci : Nat → Nat → Option Bool) (A : Hs) : vIsiC ci x (.tup [.ty .lst, .ty .tup]) A = .ok (.bl true) A := by
  rcases h with rfl | rfl <;> rfl
theorem isi_c {x : AV} {ns : List Int} (h : Sq x ns) (ci : Nat → Nat → Option Bool) (e : En) (A : Hs) (he : e[0]? = some x) : cNot (cBin (vIsiC ci) (cVar 0) (cTup (aCons (cC (.ty .lst)) (aCons (cC (.ty .tup)) aNil)))) e A = .ok (.bl false) A := by
  refine not_ok (t := true) ((bin_ok (x := x) (A' := A) (y := .tup [.ty .lst, .ty .tup]) (A2 := A) (h.var he) rfl).trans ?_)
  exact isi_sq h ci A
/-- a row of keys -/
structure Row (ks : List Int) : Prop where
  l : ks.length ≤ 12
  k : ∀ x ∈ ks, -1000000000 ≤ x ∧ x ≤ 1000000000
def wayN (w : Nat) : Nat → Nat → List Nat
  | 0, p => [p]
  | k + 1, p => match p with
    | 0 => [0]
    | q + 1 => wayN w k (q / w) ++ [q + 1]
def subN (m w p : Nat) : List Nat := (List.range m).filter fun o => decide (p ∈ wayN w 12 o)
abbrev nI (k : Nat) : AV := .int (k : Int)
def tri : List (Nat × Nat × Nat) := (List.range 13).flatMap fun m => [1, 2, 3, 4].flatMap fun w => (List.range m).map fun p => (m, w, p)
def two48 : List (Nat × Nat) := [1, 2, 3, 4].flatMap fun w => (List.range 12).map fun p => (w, p)
theorem eq_at {α β : Type} {l : List α} {f g : α → β} (h : l.map f = l.map g) {x : α} (hx : x ∈ l) : f x = g x := List.map_inj_left.mp h x hx
theorem mem4 {w : Nat} (h1 : 1 ≤ w) (h4 : w ≤ 4) : w ∈ [1, 2, 3, 4] := by
  have : w = 1 ∨ w = 2 ∨ w = 3 ∨ w = 4 := by omega
  rcases this with rfl | rfl | rfl | rfl <;> simp
def par (w p : Nat) : Nat := (p - 1) / w
theorem par_lt {w p : Nat} (h : 0 < p) : par w p < p := Nat.lt_of_le_of_lt (Nat.div_le_self _ _) (by omega)
theorem par_int {w p : Nat} (h : 0 < p) : ((p : Int) - 1) / (w : Int) = (par w p : Nat) := by
  obtain ⟨q, rfl⟩ : ∃ q, p = q + 1 := ⟨p - 1, by omega⟩
  unfold par
  rw [show ((q + 1 : Nat) : Int) - 1 = (q : Int) by omega, Nat.add_sub_cancel]
  rfl
theorem rgA_nat (m : Nat) : rgA 0 m = (List.range m).map nI := by
  unfold rgA
  rw [show ((m : Int) - 0).toNat = m by omega]
  exact List.map_congr_left fun i _ => by
    show AV.int (0 + (i : Int)) = AV.int (i : Int)
    rw [Int.zero_add]
theorem allN (l : List Nat) : allF (l.map nI) = true := allF_iff.mpr fun x hx => by
  obtain ⟨y, _, rfl⟩ := List.mem_map.mp hx
  rfl
theorem getD_some {ks : List Int} {p : Nat} (h : p < ks.length) : ks[p]? = some (ks.getD p 0) := by
  rw [List.getElem?_eq_getElem h]
  simp [List.getD_eq_getElem?_getD, List.getElem?_eq_getElem h]
/-- row[p] -/
theorem at_ok {x : AV} {ks : List Int} (h : Sq x ks) {call : CallT} {mt : Nat → Option Nat} {a b : CE} {e : En} {A : Hs} {p : Nat} (hp : p < ks.length) (ha : a e A = .ok x A) (hb : b e A = .ok (nI p) A) : cBin (vIxO call mt) a b e A = .ok (.int (ks.getD p 0)) A :=
  (bin_ok ha hb).trans (h.ix p _ (getD_some hp) A)
def faultB (ks : List Int) (w p : Nat) : Bool := decide (0 < p) && decide (ks.getD p 0 < ks.getD (par w p) 0)
def faultN (ks : List Int) (w : Nat) : List Nat := (List.range ks.length).filter (faultB ks w)
def avQ (q : Nat × Nat) : AV := .tup [nI q.1, nI q.2]
def fallB (ks : List Int) (p o : Nat) : Bool := decide (ks.getD o 0 < ks.getD p 0)
def fallsN (ks : List Int) (w : Nat) : List (Nat × Nat) := (List.range ks.length).flatMap fun p => ((subN ks.length w p).filter (fallB ks p)).map fun o => (p, o)
theorem subN_lt {m w p o : Nat} (h : o ∈ subN m w p) : o < m := List.mem_range.mp (List.mem_filter.mp h).1
theorem subN_len (m w p : Nat) : (subN m w p).length ≤ m := by
  refine Nat.le_trans (List.length_filter_le _ _) ?_
  simp
theorem allQ (l : List (Nat × Nat)) : allF (l.map avQ) = true := allF_iff.mpr fun x hx => by
  obtain ⟨y, _, rfl⟩ := List.mem_map.mp hx
  rfl
theorem falls_map (ks : List Int) (w : Nat) : ((List.range ks.length).flatMap fun p => ((subN ks.length w p).filter (fallB ks p)).map fun o => avQ (p, o)) = (fallsN ks w).map avQ := by
  unfold fallsN
  rw [List.map_flatMap]
  congr 1
  funext p
  rw [List.map_map]
  rfl
def badB (ks : List Int) (w p : Nat) : Bool := (wayN w 12 p).any fun a => decide (ks.getD p 0 < ks.getD a 0)
theorem faultN_nil {ks : List Int} {w : Nat} : faultN ks w = [] ↔ ∀ p, p < ks.length → 0 < p → ks.getD (par w p) 0 ≤ ks.getD p 0 := by
  unfold faultN
  rw [List.filter_eq_nil_iff]
  constructor
  · intro h p hp h0
    have := h p (List.mem_range.mpr hp)
    simp [faultB, h0] at this
    simpa [List.getD_eq_getElem?_getD] using this
  · intro h p hp
    have hp := List.mem_range.mp hp
    by_cases h0 : 0 < p
    · have := h p hp h0
      simp [faultB, h0]
      simpa [List.getD_eq_getElem?_getD] using this
    · simp [faultB, h0]
def rkR (ks : List Int) : List (List Int) := (List.range ks.length).map fun p => [ks.getD p 0, (p : Int)]
def dueN (ks : List Int) (p : Nat) : Nat := (ks.filter fun y => decide (y < ks.getD p 0)).length + ((ks.take p).filter fun y => decide (y = ks.getD p 0)).length
def dueL (ks : List Int) : List Int := (List.range ks.length).map fun p => (dueN ks p : Int)
def Bd (r : List Int) : Prop := ∀ x ∈ r, -1000000000 ≤ x ∧ x ≤ 1000000000
theorem Bd.get {r : List Int} (h : Bd r) {p : Nat} (hp : p < r.length) : -1000000000 ≤ r.getD p 0 ∧ r.getD p 0 ≤ 1000000000 := h _ (List.mem_of_getElem? (getD_some hp))
theorem Bd.set {r : List Int} (h : Bd r) {p : Nat} {y : Int} (hy : -1000000000 ≤ y ∧ y ≤ 1000000000) : Bd (r.set p y) := fun x hx => by
  rcases List.mem_or_eq_of_mem_set hx with q | q
  · exact h x q
  · rw [q]; exact hy
end Ev
namespace Ev
open PySem PySem.Spec PyProof.Rows L2
def swp (r : List Int) (p q : Nat) : List Int := (r.set p (r.getD q 0)).set q (r.getD p 0)
def upN (w : Nat) : Nat → List Int → Nat → List Int
  | 0, r, _ => r
  | k + 1, r, p => if p = 0 then r else if r.getD (par w p) 0 ≤ r.getD p 0 then r else upN w k (swp r p (par w p)) (par w p)
def heapN (w : Nat) (ks : List Int) : List Int := ks.foldl (fun r k => upN w 20 (r ++ [k]) r.length) []
theorem swp_len (r : List Int) (p q : Nat) : (swp r p q).length = r.length := by simp [swp]
/-- a swap keeps what is there -/
theorem swp_perm {r : List Int} {p q : Nat} (hp : p < r.length) (hq : q < r.length) : (swp r p q).Perm r := by
  have e1 : r.getD p 0 = r[p] := by simp [List.getD_eq_getElem?_getD, hp]
  have e2 : r.getD q 0 = r[q] := by simp [List.getD_eq_getElem?_getD, hq]
  unfold swp
  rw [e1, e2]
  exact List.set_set_perm hp hq
theorem var_ok {e : En} {A : Hs} {i : Nat} {v : AV} (h : e[i]? = some v) (hu : v ≠ .und) : cVar i e A = .ok v A := by
  unfold cVar
  rw [h]
  cases v <;> first | rfl | exact absurd rfl hu
def eNt : Enc Nat := ⟨nI, fun n => .int n, 0, fun n A x _ => by cases n <;> rfl, fun x y => by
  rw [PyData.eqv, Bool.eq_iff_iff, decide_eq_true_iff, beq_iff_eq]
  omega, fun _ => rfl, fun _ _ => rfl⟩
def eQ : Enc (Nat × Nat) := ⟨avQ, fun q => .tuple [.int q.1, .int q.2], 1, fun n A x hn => by
    obtain ⟨m, rfl⟩ : ∃ m, n = m + 1 := ⟨n - 1, by omega⟩
    cases m <;> rfl, fun x y => by
    obtain ⟨a, b⟩ := x
    obtain ⟨c, d⟩ := y
    rw [Bool.eq_iff_iff, decide_eq_true_iff]
    simp [PyData.eqv, PyData.eqvAll]
    omega, fun _ => rfl, fun _ _ => rfl⟩
theorem iown_lst {ix : Nat → Option Nat} {c : CE} {e : En} {A A1 : Hs} {xs : List AV} (h : c e A = .ok (.lst xs) A1) : iOwn ix c e A = .ok (.lst (.lst xs)) A1 := by
  unfold iOwn
  rw [h]
  rfl
theorem cat_av (xs ys : List AV) (A : Hs) (hx : allF (xs ++ ys) = true) (h : xs.length + ys.length ≤ 16777216) : vAdd (.lst xs) (.lst ys) A = .ok (.lst (xs ++ ys)) A := by
  show vCat (.lst xs) (.lst ys) A = _
  unfold vCat
  dsimp only [lstOf]
  rw [hx, show line (xs.length + ys.length) = true from Nat.ble_eq_true_of_le (by simpa using h)]
  rfl
theorem anil_ok {e : En} {A : Hs} : aNil e A = .ok [] A := rfl
theorem ctup_ok {a : CA} {e : En} {A A' : Hs} {xs : List AV} (h : a e A = .ok xs A') (hf : allF xs = true) (hl : xs.length ≤ 16777216) : cTup a e A = .ok (.tup xs) A' := by
  unfold cTup cArgs
  rw [h]
  dsimp only [RA.bind]
  rw [if_pos hl]
  unfold mkT
  rw [hf]
theorem Row.perm {ks l : List Int} (h : Row ks) (p : l.Perm ks) : Row l := ⟨p.length_eq ▸ h.l, fun x hx => h.k x (p.mem_iff.mp hx)⟩
end Ev
namespace Ev
open PySem PySem.Spec PyProof.Rows L2
/-- the row behind a way; f: what is there, key: the key that moves -/
def mvGo (ks : List Int) (key : Int) : List Int → List Nat → List Int
  | f, [] => f
  | f, [p] => f.set p key
  | f, p :: q :: r => mvGo ks key (f.set p (ks.getD q 0)) (q :: r)
def mvN (ks : List Int) (way : List Nat) : List Int := mvGo ks (ks.getD (way.headD 0) 0) ks way
def wayUp (w : Nat) (ks : List Int) (key : Int) : Nat → Nat → List Nat × Nat
  | 0, p => ([p], 0)
  | k + 1, p => if p = 0 then ([p], 0) else if ks.getD (par w p) 0 ≤ key then ([p], 1) else (p :: (wayUp w ks key k (par w p)).1, (wayUp w ks key k (par w p)).2 + 1)
/-- the children of a place -/
def chN (m w p : Nat) : List Nat := (List.range (min (w * p + 1 + w) m - (w * p + 1))).map (· + (w * p + 1))
/-- the first one with the least key, of b and the others -/
def flN (ks : List Int) : List Nat → Nat → Nat
  | [], b => b
  | y :: r, b => if ks.getD y 0 < ks.getD b 0 then flN ks r y else flN ks r b
def least (ks : List Int) (l : List Nat) : Nat := flN ks l.tail (l.headD 0)
def wayDn (m w : Nat) (ks : List Int) (key : Int) : Nat → Nat → List Nat × Nat
  | 0, p => ([p], 0)
  | k + 1, p => if chN m w p = [] then ([p], 0) else if key ≤ ks.getD (least ks (chN m w p)) 0 then ([p], (chN m w p).length)
    else (p :: (wayDn m w ks key k (least ks (chN m w p))).1, (chN m w p).length + (wayDn m w ks key k (least ks (chN m w p))).2)
theorem wayUp_succ (w : Nat) (ks : List Int) (key : Int) (k p : Nat) : wayUp w ks key (k + 1) p = if p = 0 then ([p], 0) else if ks.getD (par w p) 0 ≤ key then ([p], 1) else (p :: (wayUp w ks key k (par w p)).1, (wayUp w ks key k (par w p)).2 + 1) := rfl
theorem wayDn_succ (m w : Nat) (ks : List Int) (key : Int) (k p : Nat) : wayDn m w ks key (k + 1) p = if chN m w p = [] then ([p], 0) else if key ≤ ks.getD (least ks (chN m w p)) 0 then ([p], (chN m w p).length)
    else (p :: (wayDn m w ks key k (least ks (chN m w p))).1, (chN m w p).length + (wayDn m w ks key k (least ks (chN m w p))).2) := rfl
theorem chN_mem {m w p o : Nat} (h : o ∈ chN m w p) : w * p + 1 ≤ o ∧ o < m ∧ o < w * p + 1 + w := by
  obtain ⟨i, hi, rfl⟩ := List.mem_map.mp h
  have := List.mem_range.mp hi
  omega
theorem chN_gt {m w p o : Nat} (hw : 1 ≤ w) (h : o ∈ chN m w p) : p < o := by
  have := chN_mem h
  have : 1 * p ≤ w * p := Nat.mul_le_mul_right p hw
  omega
theorem flN_mem (ks : List Int) : ∀ (l : List Nat) (b : Nat), flN ks l b = b ∨ flN ks l b ∈ l
  | [], b => .inl rfl
  | y :: r, b => by
    unfold flN
    split
    · rcases flN_mem ks r y with h | h
      · rw [h]; simp
      · exact .inr (List.mem_cons_of_mem _ h)
    · rcases flN_mem ks r b with h | h
      · exact .inl h
      · exact .inr (List.mem_cons_of_mem _ h)
theorem least_mem (ks : List Int) {l : List Nat} (h : l ≠ []) : least ks l ∈ l := by
  cases l with
  | nil => exact absurd rfl h
  | cons b r =>
    show flN ks r b ∈ b :: r
    rcases flN_mem ks r b with e | e
    · rw [e]; simp
    · exact List.mem_cons_of_mem _ e
theorem getD_set_self {f : List Int} {p : Nat} (h : p < f.length) (k : Int) : (f.set p k).getD p 0 = k := by
  simp [List.getD_eq_getElem?_getD, h]
theorem getD_set_ne {f : List Int} {p q : Nat} (h : p ≠ q) (k : Int) : (f.set p k).getD q 0 = f.getD q 0 := by
  rw [List.getD_eq_getElem?_getD, List.getD_eq_getElem?_getD, List.getElem?_set_ne h]
theorem swp_set {f : List Int} {p q : Nat} (hp : p < f.length) (hn : p ≠ q) (key x : Int) (hx : f.getD q 0 = x) : swp (f.set p key) p q = (f.set p x).set q key := by
  unfold swp
  rw [getD_set_self hp, getD_set_ne hn, hx, List.set_set]
theorem wayUp_head (w : Nat) (ks : List Int) (key : Int) : ∀ k p, ∃ r, (wayUp w ks key k p).1 = p :: r
  | 0, p => ⟨[], rfl⟩
  | k + 1, p => by
    unfold wayUp
    split
    · exact ⟨[], rfl⟩
    · split
      · exact ⟨[], rfl⟩
      · exact ⟨_, rfl⟩
theorem wayDn_head (m w : Nat) (ks : List Int) (key : Int) : ∀ k p, ∃ r, (wayDn m w ks key k p).1 = p :: r
  | 0, p => ⟨[], rfl⟩
  | k + 1, p => by
    unfold wayDn
    split
    · exact ⟨[], rfl⟩
    · split
      · exact ⟨[], rfl⟩
      · exact ⟨_, rfl⟩
/-- the law's own way up: the row, the way, the looks -/
def lupN (w : Nat) : Nat → List Int → Nat → List Int × List Nat × Nat
  | 0, late, p => (late, [p], 0)
  | k + 1, late, p => if p = 0 then (late, [p], 0) else if ¬ late.getD p 0 < late.getD (par w p) 0 then (late, [p], 1)
    else ((lupN w k (swp late p (par w p)) (par w p)).1, p :: (lupN w k (swp late p (par w p)) (par w p)).2.1, (lupN w k (swp late p (par w p)) (par w p)).2.2 + 1)
theorem lup_go {w : Nat} (ks : List Int) (key : Int) : ∀ (k p : Nat) (f : List Int), p < f.length → (∀ q, q < p → f.getD q 0 = ks.getD q 0) → lupN w k (f.set p key) p = (mvGo ks key f (wayUp w ks key k p).1, (wayUp w ks key k p).1, (wayUp w ks key k p).2)
  | 0, p, f, hp, hf => rfl
  | k + 1, p, f, hp, hf => by
    unfold lupN wayUp
    by_cases h0 : p = 0
    · rw [if_pos h0, if_pos h0]
      rfl
    · rw [if_neg h0, if_neg h0]
      have hq := par_lt (w := w) (show 0 < p by omega)
      rw [getD_set_self hp, getD_set_ne (Nat.ne_of_gt hq), hf _ hq]
      by_cases hk : ks.getD (par w p) 0 ≤ key
      · rw [if_pos hk, if_pos (Int.not_lt.mpr hk)]
        rfl
      · rw [if_neg hk, if_neg (fun z => z (Int.not_le.mp hk))]
        rw [swp_set hp (Nat.ne_of_gt hq) key _ (hf _ hq)]
        rw [lup_go ks key k (par w p) (f.set p (ks.getD (par w p) 0)) (by rw [List.length_set]; omega) (fun q hq2 => by rw [getD_set_ne (by omega)]; exact hf q (by omega))]
        obtain ⟨r, hr⟩ := wayUp_head w ks key k (par w p)
        dsimp only
        rw [hr]
        rfl
theorem set_same : ∀ {l : List Int} {t : Nat} {x : Int}, l[t]? = some x → l.set t x = l
  | [], _, _, h => by simp at h
  | y :: l, 0, x, h => by simp at h; subst h; rfl
  | y :: l, t + 1, x, h => by simp at h; simp [set_same h]
theorem set_getD {ks : List Int} {p : Nat} (h : p < ks.length) : ks.set p (ks.getD p 0) = ks := set_same (getD_some h)
theorem lup_eq {w : Nat} {ks : List Int} {p : Nat} (hp : p < ks.length) : lupN w 20 ks p = (mvN ks (wayUp w ks (ks.getD p 0) 20 p).1, (wayUp w ks (ks.getD p 0) 20 p).1, (wayUp w ks (ks.getD p 0) 20 p).2) := by
  have := lup_go (w := w) ks (ks.getD p 0) 20 p ks hp (fun _ _ => rfl)
  rw [set_getD hp] at this
  rw [this]
  obtain ⟨r, hr⟩ := wayUp_head w ks (ks.getD p 0) 20 p
  unfold mvN
  rw [hr]
  rfl
/-- the law's own way down -/
def ldnN (m w : Nat) : Nat → List Int → Nat → List Int × List Nat × Nat
  | 0, late, p => (late, [p], 0)
  | k + 1, late, p => if chN m w p = [] then (late, [p], 0) else if ¬ late.getD p 0 > late.getD (least late (chN m w p)) 0 then (late, [p], (chN m w p).length)
    else ((ldnN m w k (swp late p (least late (chN m w p))) (least late (chN m w p))).1, p :: (ldnN m w k (swp late p (least late (chN m w p))) (least late (chN m w p))).2.1, (chN m w p).length + (ldnN m w k (swp late p (least late (chN m w p))) (least late (chN m w p))).2.2)
theorem flN_congr {f g : List Int} : ∀ (l : List Nat) (b : Nat), (∀ q ∈ b :: l, f.getD q 0 = g.getD q 0) → flN f l b = flN g l b
  | [], _, _ => rfl
  | y :: r, b, h => by
    unfold flN
    rw [h y (by simp), h b (by simp)]
    split
    · exact flN_congr r y fun q hq => h q (by
        rcases List.mem_cons.mp hq with rfl | hq
        · simp
        · simp [hq])
    · exact flN_congr r b fun q hq => h q (by
        rcases List.mem_cons.mp hq with rfl | hq
        · simp
        · simp [hq])
theorem least_congr {f g : List Int} {l : List Nat} (h : ∀ q ∈ l, f.getD q 0 = g.getD q 0) : least f l = least g l := by
  cases l with
  | nil => rfl
  | cons b r => exact flN_congr r b h
theorem ldn_go {m w : Nat} (hw : 1 ≤ w) (ks : List Int) (key : Int) : ∀ (k p : Nat) (f : List Int), p < f.length → m ≤ f.length → (∀ q, p < q → f.getD q 0 = ks.getD q 0) → ldnN m w k (f.set p key) p = (mvGo ks key f (wayDn m w ks key k p).1, (wayDn m w ks key k p).1, (wayDn m w ks key k p).2)
  | 0, p, f, hp, hm, hf => rfl
  | k + 1, p, f, hp, hm, hf => by
    unfold ldnN wayDn
    by_cases h0 : chN m w p = []
    · rw [if_pos h0, if_pos h0]
      rfl
    · rw [if_neg h0, if_neg h0]
      have el : least (f.set p key) (chN m w p) = least ks (chN m w p) := least_congr fun q hq => by
        have := chN_gt hw hq
        rw [getD_set_ne (by omega)]
        exact hf q this
      rw [el]
      have hl := least_mem ks h0
      have hgt := chN_gt hw hl
      have hlm := (chN_mem hl).2.1
      generalize least ks (chN m w p) = l at *
      rw [getD_set_self hp, getD_set_ne (Nat.ne_of_lt hgt), hf _ hgt]
      by_cases hk : key ≤ ks.getD l 0
      · rw [if_pos hk, if_pos (Int.not_lt.mpr hk)]
        rfl
      · rw [if_neg hk, if_neg (fun z => z (Int.not_le.mp hk))]
        rw [swp_set hp (Nat.ne_of_lt hgt) key _ (hf _ hgt)]
        rw [ldn_go hw ks key k l (f.set p (ks.getD l 0)) (by rw [List.length_set]; omega) (by rw [List.length_set]; exact hm) (fun q hq2 => by rw [getD_set_ne (by omega)]; exact hf q (by omega))]
        obtain ⟨r, hr⟩ := wayDn_head m w ks key k l
        dsimp only
        rw [hr]
        rfl
theorem ldn_eq {m w : Nat} {ks : List Int} {p : Nat} (hw : 1 ≤ w) (hp : p < ks.length) (hm : m ≤ ks.length) : ldnN m w 20 ks p = (mvN ks (wayDn m w ks (ks.getD p 0) 20 p).1, (wayDn m w ks (ks.getD p 0) 20 p).1, (wayDn m w ks (ks.getD p 0) 20 p).2) := by
  have := ldn_go hw ks (ks.getD p 0) 20 p ks hp hm (fun _ _ => rfl)
  rw [set_getD hp] at this
  rw [this]
  obtain ⟨r, hr⟩ := wayDn_head m w ks (ks.getD p 0) 20 p
  unfold mvN
  rw [hr]
  rfl
theorem chN_asc (m w p : Nat) : (chN m w p).Pairwise (· < ·) := by
  unfold chN
  rw [List.pairwise_map]
  exact List.pairwise_lt_range.imp fun h => by omega
theorem chN_len (m w p : Nat) : (chN m w p).length ≤ w := by
  simp [chN]
  omega
end Ev
namespace Ev
open PySem PySem.Spec PyProof.Rows L2
section
variable {call : CallT} {mt : Nat → Option Nat} {B : Hs} {i : Nat} {xs : List AV} (hB : B[i]? = some (.lst xs))
include hB
theorem ins_at : insOf B (.ref i) = none := by
  unfold insOf
  dsimp only
  rw [hB]
theorem seq_at : seqOf B (.ref i) = some xs := by
  unfold seqOf sqlOf lstOf
  dsimp only
  rw [hB]
theorem isL_at : isL B (.ref i) = true := by
  unfold isL sqlOf lstOf
  dsimp only
  rw [hB]
  rfl
theorem ixl_at {v : AV} (hp : xs.getLast? = some v) (hv : v ≠ .und) : vIxO call mt (.ref i) (.int (-1)) B = .ok v B := by
  have hl : 0 < xs.length := by
    cases xs with
    | nil => simp at hp
    | cons a r => simp
  unfold vIxO ownC
  rw [ins_at hB]
  dsimp only
  unfold vIx
  dsimp only
  rw [seq_at hB]
  dsimp only
  unfold atA ixN
  rw [if_neg (by omega), if_pos (by omega)]
  dsimp only [Option.bind]
  rw [show ((-1 : Int) + (xs.length : Int)).toNat = xs.length - 1 by omega]
  rw [List.getLast?_eq_getElem?] at hp
  rw [hp]
  cases v <;> first | rfl | exact absurd rfl hv
theorem gsub_at {o ix : CE} {e : En} {p : Nat} {v : AV} (hp : p < xs.length) (ho : o e B = .ok (.ref i) B) (hi : ix e B = .ok (nI p) B) : gSub' o ix v e B = .ok e (B.set i (.lst (xs.set p v))) := by
  have e1 : ixN xs.length (p : Int) = some p := by
    unfold ixN
    rw [if_pos (by omega), if_pos (by omega)]
    rfl
  unfold gSub'
  rw [ho]
  dsimp only
  rw [hi]
  dsimp only
  rw [hB]
  dsimp only
  rw [e1]
theorem app_at {y : AV} (h : xs.length + 1 ≤ 16777216) : vAppend (.ref i) [y] B = .ok .non (B.set i (.lst (xs ++ [y]))) := by
  unfold vAppend onCell
  dsimp only
  rw [hB]
  dsimp only
  rw [show line (xs.length + 1) = true from Nat.ble_eq_true_of_le h]
  rfl
theorem ml_at {f : AV → List AV → Hs → R} {o : CE} {a : CA} {e : En} {ys : List AV} {r : R} (ho : o e B = .ok (.ref i) B) (ha : a e B = .ok ys B) (h : f (.ref i) ys B = r) : cML f o a e B = r := by
  unfold cML
  rw [ho]
  dsimp only [R.bind]
  rw [isL_at hB]
  dsimp only [guard']
  rw [ha]
  exact h
theorem tup_at (hf : allF xs = true) : vTuple (.ref i) B = .ok (.tup xs) B := by
  unfold vTuple
  rw [seq_at hB]
  dsimp only
  rw [hf]
  rfl
theorem len_at : vLenO call mt (.ref i) B = .ok (.int xs.length) B := by
  unfold vLenO ownC
  rw [ins_at hB]
  dsimp only
  unfold vLen
  dsimp only
  rw [seq_at hB]
end
theorem c2_0 {A : Hs} {a b : Cell} : (A ++ [a, b])[A.length]? = some a := by
  rw [List.getElem?_append_right (Nat.le_refl _), Nat.sub_self]
  rfl
theorem mapN_last {ps : List Nat} {p : Nat} (h : ps.getLast? = some p) : (ps.map nI).getLast? = some (nI p) := by
  rw [List.getLast?_map, h]
  rfl
/-- a pair of a new list and a number is handed out -/
theorem fin1_M2 {A : Hs} {xs : List AV} {v : AV} (ha : okA A = true) (hx : allF xs = true) (hv : isF v = true) : fin1 A.length (.mix [.ref A.length, v]) (A ++ [.lst xs]) = .ok (.tup [.lst xs, v]) A := by
  unfold fin1
  have e : Nat.beq (A ++ [Cell.lst xs]).length A.length = false := by
    cases z : Nat.beq (A ++ [Cell.lst xs]).length A.length with
    | false => rfl
    | true =>
      have := Nat.eq_of_beq_eq_true z
      simp at this
  rw [e]
  dsimp only
  have e1 : Nat.blt A.length A.length = false := by
    cases z : Nat.blt A.length A.length with
    | false => rfl
    | true => have := blt_lt z; omega
  have e2 : Nat.beq A.length (A ++ [Cell.lst xs]).length = false := by
    cases z : Nat.beq A.length (A ++ [Cell.lst xs]).length with
    | false => rfl
    | true =>
      have := Nat.eq_of_beq_eq_true z
      simp at this
  have e3 : fzV A.length (A ++ [Cell.lst xs]).length (A ++ [.lst xs]) 7 (.ref A.length) = some (.lst xs) := by
    unfold fzV
    dsimp only
    rw [e1]
    dsimp only
    rw [e2]
    dsimp only
    rw [get_app]
    dsimp only
    rw [optAll_F hx]
    dsimp only
    rw [hx]
    rfl
  have e4 : fzV A.length (A ++ [Cell.lst xs]).length (A ++ [.lst xs]) 8 (.mix [.ref A.length, v]) = some (.tup [.lst xs, v]) := by
    unfold fzV
    dsimp only
    unfold optAll
    rw [e3]
    dsimp only
    unfold optAll
    rw [fzV_F hv]
    dsimp only [optAll]
    have : allF [.lst xs, v] = true := allF_iff.mpr fun y hy => by
      rcases List.mem_cons.mp hy with rfl | hy
      · rfl
      · rw [List.mem_singleton.mp hy]; exact hv
    unfold mkT
    rw [this]
  rw [e4, take_app]
  show pick (A.all (lowC A.length)) _ _ = _
  rw [show A.all (lowC A.length) = true from ha]
  rfl
section
variable {F : Nat → Option FnC} {n f np nl : Nat} {code : CallT → CS} {us : List AV} {A : Hs} {v : AV}
theorem call_rtM2 {xs : List AV} (hF : F f = some ⟨np, nl, .fz, code⟩) (hl : us.length = np) (ha : okA A = true) (hx : allF xs = true) (hv : isF v = true)
    (h : code (callF F n) (us ++ List.replicate (nl - np) .und) A = .rt (.mix [.ref A.length, v]) (A ++ [.lst xs])) : callF F (n + 1) f us A = .ok (.tup [.lst xs, v]) A := by
  unfold callF
  rw [hF]
  dsimp only
  rw [hl, Nat.beq_refl]
  dsimp only [finM]
  rw [h]
  exact fin1_M2 ha hx hv
end
/-- a while that may be left -/
theorem while_bk {c : CE} {b : CS} (I : Nat → En → Hs → Prop) (Z : En → Hs → Prop) (step : ∀ k e A, I k e A → (c e A = .ok (.bl false) A ∧ Z e A) ∨ (c e A = .ok (.bl true) A ∧ ((∃ k' e2 A2, b e A = .nx e2 A2 ∧ k' < k ∧ I k' e2 A2) ∨ ∃ e2 A2, b e A = .bk e2 A2 ∧ Z e2 A2))) :
    ∀ (N k : Nat) (e : En) (A : Hs), k < N → I k e A → ∃ e' A', sWhile c b N e A = .nx e' A' ∧ Z e' A' := by
  intro N
  induction N with
  | zero => intro k e A h; omega
  | succ N ih =>
    intro k e A hk h
    rw [sWhile]
    dsimp only
    rcases step k e A h with ⟨h1, h2⟩ | ⟨h1, ⟨k', e2, A2, h2, h3, h4⟩ | ⟨e2, A2, h2, h3⟩⟩
    · rw [h1]
      exact ⟨e, A, rfl, h2⟩
    · obtain ⟨e', A', h5, h6⟩ := ih k' e2 A2 (by omega) h4
      rw [h1]
      refine ⟨e', A', ?_, h6⟩
      show (match b e A with
        | .nx e A => sWhile c b N e A
        | .bk e A => .nx e A
        | .rt v A => .rt v A
        | .bad => .bad) = _
      rw [h2]
      exact h5
    · rw [h1]
      refine ⟨e2, A2, ?_, h3⟩
      show (match b e A with
        | .nx e A => sWhile c b N e A
        | .bk e A => .nx e A
        | .rt v A => .rt v A
        | .bad => .bad) = _
      rw [h2]
theorem sql_lst (xs : List AV) (A : Hs) : sqlOf A (.lst xs) = some xs := rfl
theorem at_zipN (l m : List Nat) (A : Hs) (k : Nat) : (Src.zipL (.lst (l.map nI)) (.lst (m.map nI))).at A k = some ((l.zip m).map avQ)[k]? := by
  show (match (l.map nI)[k]? with
    | some v => (match (m.map nI)[k]? with
      | some w => some (some (mkT [v, w]))
      | none => some none)
    | none => some none) = _
  rw [List.getElem?_map, List.getElem?_map, List.getElem?_map, List.zip, List.getElem?_zipWith]
  cases l[k]? with
  | none => rfl
  | some a =>
    cases m[k]? with
    | none => rfl
    | some b => rfl
theorem cut_tail (xs : List AV) : cutA xs (some 1) none = xs.drop 1 := by
  unfold cutA HT.sIx
  cases xs with
  | nil => rfl
  | cons a r => simp
theorem vListUM_sq {x : AV} {ks : List Int} (h : Sq x ks) (call : CallT) (ix mt : Nat → Option Nat) (A : Hs) : vListUM call ix mt x A = .ok (.ref A.length) (A ++ [.lst (ks.map .int)]) := by
  have e : insOf A x = none := by rcases h with rfl | rfl <;> rfl
  unfold vListUM
  rw [e]
  dsimp only
  unfold vListM
  rw [seq_sq h]
theorem fldS_ok {ix : Nat → Option Nat} {o v : CE} {e : En} {B : Hs} {j c i : Nat} {fs : List AV} {y : AV} (hv : v e B = .ok y B) (ho : o e B = .ok (.ref j) B) (hB : B[j]? = some (.ins c fs)) (hi : ix c = some i) : sFldS ix o v e B = .nx e (B.set j (.ins c (setF fs i y))) := by
  unfold sFldS
  rw [hv]
  dsimp only
  rw [ho]
  dsimp only
  rw [hB]
  dsimp only
  rw [hi]
end Ev
namespace Ev
open PySem PySem.Spec PyProof.Rows L2 Ev
theorem par_ch {m w p q : Nat} (hw : 1 ≤ w) (h : q ∈ chN m w p) : 0 < q ∧ q < m ∧ par w q = p := by
  have := chN_mem h
  refine ⟨by omega, this.2.1, ?_⟩
  unfold par
  rw [show q - 1 = (q - 1 - w * p) + w * p by omega, Nat.add_mul_div_left _ _ (by omega), Nat.div_eq_of_lt (by omega)]
  omega
theorem ch_par {m w q : Nat} (hw : 1 ≤ w) (h0 : 0 < q) (h : q < m) : q ∈ chN m w (par w q) := by
  unfold chN par
  have h1 := Nat.div_add_mod (q - 1) w
  have h2 := Nat.mod_lt (q - 1) (show w > 0 by omega)
  refine List.mem_map.mpr ⟨(q - 1) % w, List.mem_range.mpr ?_, ?_⟩ <;> generalize w * ((q - 1) / w) = z at * <;> omega
theorem flN_le (ks : List Int) : ∀ (l : List Nat) (b : Nat), ks.getD (flN ks l b) 0 ≤ ks.getD b 0 ∧ ∀ q ∈ l, ks.getD (flN ks l b) 0 ≤ ks.getD q 0
  | [], b => ⟨Int.le_refl _, fun _ h => by cases h⟩
  | y :: r, b => by
    unfold flN
    split
    · rename_i h
      have := flN_le ks r y
      refine ⟨by omega, fun q hq => ?_⟩
      rcases List.mem_cons.mp hq with rfl | hq
      · exact this.1
      · exact this.2 q hq
    · rename_i h
      have := flN_le ks r b
      refine ⟨this.1, fun q hq => ?_⟩
      rcases List.mem_cons.mp hq with rfl | hq
      · omega
      · exact this.2 q hq
theorem least_le (ks : List Int) {l : List Nat} {q : Nat} (hq : q ∈ l) : ks.getD (least ks l) 0 ≤ ks.getD q 0 := by
  cases l with
  | nil => cases hq
  | cons b r =>
    have := flN_le ks r b
    rcases List.mem_cons.mp hq with rfl | hq
    · exact this.1
    · exact this.2 q hq
theorem swp_l {r : List Int} {p q : Nat} (hp : p < r.length) (hn : p ≠ q) : (swp r p q).getD p 0 = r.getD q 0 := by
  unfold swp
  rw [getD_set_ne (Ne.symm hn), getD_set_self hp]
theorem swp_r {r : List Int} {p q : Nat} (hq : q < r.length) : (swp r p q).getD q 0 = r.getD p 0 := by
  unfold swp
  rw [getD_set_self (by simpa using hq)]
theorem swp_o {r : List Int} {p q t : Nat} (h1 : t ≠ p) (h2 : t ≠ q) : (swp r p q).getD t 0 = r.getD t 0 := by
  unfold swp
  rw [getD_set_ne (Ne.symm h2), getD_set_ne (Ne.symm h1)]
/-- no fault at a place whose parent stands at p0 or behind -/
def Hp (w p0 : Nat) (ks : List Int) : Prop := ∀ q, 0 < q → q < ks.length → p0 ≤ par w q → ks.getD (par w q) 0 ≤ ks.getD q 0
def Jd (w p0 : Nat) (ks : List Int) (p : Nat) : Prop := (∀ q, 0 < q → q < ks.length → p0 ≤ par w q → par w q ≠ p → ks.getD (par w q) 0 ≤ ks.getD q 0) ∧ (∀ q, 0 < q → q < ks.length → par w q = p → 0 < p → p0 ≤ par w p → ks.getD (par w p) 0 ≤ ks.getD q 0)
theorem ldn_heap {w p0 : Nat} (hw : 1 ≤ w) : ∀ (k p : Nat) (late : List Int), p < late.length → late.length ≤ p + k → p0 ≤ p → Jd w p0 late p → Hp w p0 (ldnN late.length w k late p).1
  | 0, p, late, h1, h2, _, _ => by omega
  | k + 1, p, late, h1, h2, hp0, hJ => by
    unfold ldnN
    split
    · rename_i hc
      intro q hq0 hq hq1
      refine hJ.1 q hq0 hq hq1 fun e => ?_
      have := ch_par hw hq0 hq
      rw [e, hc] at this
      cases this
    · rename_i hc
      have hm := least_mem late hc
      split
      · rename_i hle
        show Hp w p0 late
        intro q hq0 hq hq1
        by_cases e : par w q = p
        · have h3 := ch_par hw hq0 hq
          rw [e] at h3
          have := least_le late h3
          rw [e]
          omega
        · exact hJ.1 q hq0 hq hq1 e
      · rename_i hgt
        generalize hcd : least late (chN late.length w p) = c at *
        have hgt : late.getD c 0 < late.getD p 0 := by omega
        have hpc := chN_gt hw hm
        obtain ⟨hc0, hcm, hcp⟩ := par_ch hw hm
        have hlen := swp_len late p c
        have key := ldn_heap (p0 := p0) hw k c (swp late p c) (by rw [hlen]; exact hcm) (by rw [hlen]; omega) (by omega)
        rw [hlen] at key
        refine key ⟨fun q hq0 hq hq1 hne => ?_, fun q hq0 hq hqc _ hq1 => ?_⟩
        · rw [hlen] at hq
          by_cases e1 : q = p
          · subst e1
            have hlt := par_lt (w := w) hq0
            rw [swp_l h1 (by omega), swp_o (by omega) (by omega)]
            exact hJ.2 c hc0 hcm hcp hq0 hq1
          by_cases e2 : q = c
          · subst e2
            rw [hcp, swp_l h1 (by omega), swp_r hcm]
            omega
          by_cases e3 : par w q = p
          · rw [e3, swp_l h1 (by omega), swp_o e1 e2, ← hcd]
            have h3 := ch_par hw hq0 hq
            rw [e3] at h3
            exact least_le late h3
          · rw [swp_o e3 hne, swp_o e1 e2]
            exact hJ.1 q hq0 hq hq1 e3
        · rw [hlen] at hq
          have hlt := par_lt (w := w) hq0
          rw [hcp, swp_l h1 (by omega), swp_o (by omega) (by omega)]
          have := hJ.1 q hq0 hq (by omega) (by omega)
          rw [hqc] at this
          exact this
theorem ldn_perm {m w : Nat} : ∀ (k p : Nat) (late : List Int), p < late.length → m ≤ late.length → ((ldnN m w k late p).1).Perm late
  | 0, p, late, h1, _ => List.Perm.refl _
  | k + 1, p, late, h1, hm => by
    unfold ldnN
    split
    · exact List.Perm.refl _
    · rename_i hc
      split
      · exact List.Perm.refl _
      · have hl := (chN_mem (least_mem late hc)).2.1
        have hlen := swp_len late p (least late (chN m w p))
        exact (ldn_perm k _ _ (by rw [hlen]; omega) (by rw [hlen]; exact hm)).trans (swp_perm h1 (by omega))
theorem ldn_len {m w k p : Nat} {late : List Int} (h1 : p < late.length) (hm : m ≤ late.length) : (ldnN m w k late p).1.length = late.length := (ldn_perm k p late h1 hm).length_eq
abbrev Bu := List Int × List (Nat × Nat) × Nat × Nat
def stB (w : Nat) (s : Bu) (p : Nat) : Bu := ((ldnN s.1.length w 20 s.1 p).1, s.2.1 ++ [(p, (ldnN s.1.length w 20 s.1 p).2.1.getLastD 0)], s.2.2.1 + ((ldnN s.1.length w 20 s.1 p).2.1.length - 1), s.2.2.2 + (ldnN s.1.length w 20 s.1 p).2.2)
/-- the places with children, from the last one on -/
def parN (m w : Nat) : List Nat := ((List.range m).filter fun p => !decide (chN m w p = [])).reverse
def bldN (w : Nat) (ks : List Int) : Bu := (parN ks.length w).foldl (stB w) (ks, [], 0, 0)
theorem parN_lt {m w p : Nat} (h : p ∈ parN m w) : p < m := List.mem_range.mp (List.mem_filter.mp (List.mem_reverse.mp h)).1
theorem fold_perm {w : Nat} : ∀ (l : List Nat) (s : Bu), (∀ p ∈ l, p < s.1.length) → ((l.foldl (stB w) s).1).Perm s.1
  | [], s, _ => List.Perm.refl _
  | p :: l, s, h => by
    have h1 := ldn_perm (m := s.1.length) (w := w) 20 p s.1 (h p (by simp)) (Nat.le_refl _)
    rw [List.foldl_cons]
    refine (fold_perm l (stB w s p) fun q hq => ?_).trans h1
    show q < (ldnN s.1.length w 20 s.1 p).1.length
    rw [h1.length_eq]
    exact h q (List.mem_cons_of_mem _ hq)
theorem bld_perm (w : Nat) (ks : List Int) : (bldN w ks).1.Perm ks := fold_perm _ _ fun p hp => parN_lt hp
theorem fold_heap {w m : Nat} (hw : 1 ≤ w) (hm : m ≤ 12) : ∀ (j : Nat) (s : Bu), s.1.length = m → j ≤ m → Hp w j s.1 → Hp w 0 ((((List.range j).filter fun p => !decide (chN m w p = [])).reverse).foldl (stB w) s).1
  | 0, s, _, _, h => h
  | j + 1, s, hl, hj, h => by
    rw [List.range_succ, List.filter_append, List.reverse_append, List.foldl_append]
    by_cases hc : chN m w j = []
    · rw [show ([j].filter fun p => !decide (chN m w p = [])) = [] by simp [hc]]
      refine fold_heap hw hm j s hl (by omega) fun q hq0 hq hq1 => h q hq0 hq ?_
      by_cases e : par w q = j
      · have := ch_par (m := m) hw hq0 (by omega)
        rw [e, hc] at this
        cases this
      · omega
    · rw [show ([j].filter fun p => !decide (chN m w p = [])) = [j] by simp [hc]]
      have h1 := ldn_len (m := s.1.length) (w := w) (k := 20) (p := j) (late := s.1) (by omega) (Nat.le_refl _)
      refine fold_heap hw hm j (stB w s j) (by rw [← hl]; exact h1) (by omega) ?_
      refine ldn_heap hw 20 j s.1 (by omega) (by omega) (Nat.le_refl _) ⟨fun q hq0 hq hq1 hne => h q hq0 hq (by omega), fun q hq0 hq hq1 h0 h2 => ?_⟩
      have := par_lt (w := w) h0
      omega
theorem bld_heap {w : Nat} (hw : 1 ≤ w) {ks : List Int} (hm : ks.length ≤ 12) : Hp w 0 (bldN w ks).1 := by
  refine fold_heap hw hm ks.length (ks, [], 0, 0) rfl (Nat.le_refl _) fun q hq0 hq hq1 => ?_
  have := par_lt (w := w) hq0
  have hq : q < ks.length := hq
  omega
end Ev
namespace Ev
open PySem PySem.Spec PyProof.Rows L2 Ev
theorem srt_perm {a b : List Int} (h : a.Perm b) : srtB iLe a = srtB iLe b := by
  refine perm_uniq (le := iLe) (fun a b h1 h2 => ?_) (((srtB_perm a).trans h).trans (srtB_perm b).symm) (srtB_sorted (fun a b h => ?_) (fun a b c h1 h2 => ?_) a) (srtB_sorted (fun a b h => ?_) (fun a b c h1 h2 => ?_) b)
  · have := of_decide_eq_true h1
    have := of_decide_eq_true h2
    omega
  · have := of_decide_eq_false h
    exact decide_eq_true (by omega)
  · have := of_decide_eq_true h1
    have := of_decide_eq_true h2
    exact decide_eq_true (by omega)
  · have := of_decide_eq_false h
    exact decide_eq_true (by omega)
  · have := of_decide_eq_true h1
    have := of_decide_eq_true h2
    exact decide_eq_true (by omega)
theorem lastT_ok {call : CallT} {mt : Nat → Option Nat} (ps : List Nat) (x : Nat) (h : ps.getLast? = some x) (A : Hs) : vIxO call mt (.tup (ps.map nI)) (.int (-1)) A = .ok (nI x) A := by
  obtain ⟨q, rfl⟩ := List.getLast?_eq_some_iff.mp h
  have e : ixN ((q ++ [x]).map nI).length (-1) = some q.length := by
    unfold ixN
    simp
    omega
  simp only [List.replicate, Nat.sub_self, Nat.reduceSub, List.append_nil, List.nil_append, List.cons_append, cAnd, cOr, cBin, cUn, cVar, cC, cNot, cIf, cChain, R.bind, RA.bind, dA, List.map_nil, List.getElem?_cons_zero, List.getElem?_cons_succ, List.set_cons_zero, List.set_cons_succ, vIsiC, vIsi, tyA, onB, onBS, pick, Ty.sub, vLe, vLt, vGt, vGe, vAdd, vSub, vMul, vFDiv, vMod, on2I, vNeg, guard', cCall, cMeth, cArgs, aNil, aCons, aApp, cFld, vFld, insOf, cTup, cLst, cLstM, vIntB, vInt, cNu, cTri, cUnd, cRg, kTupA, vIxO, ownC, vIx, seqOf, sqlOf, lstOf, atA, e, Option.bind_some]
  simp
theorem ldn_ne {m w : Nat} : ∀ (k : Nat) (late : List Int) (p : Nat), ∃ q r, (ldnN m w k late p).2.1 = q :: r
  | 0, late, p => ⟨p, [], rfl⟩
  | k + 1, late, p => by
    unfold ldnN
    split
    · exact ⟨p, [], rfl⟩
    · split
      · exact ⟨p, [], rfl⟩
      · exact ⟨p, _, rfl⟩
theorem ldn_last {m w k p : Nat} {late : List Int} : (ldnN m w k late p).2.1.getLast? = some ((ldnN m w k late p).2.1.getLastD 0) := by
  obtain ⟨q, r, h⟩ := ldn_ne (m := m) (w := w) k late p
  rw [h, List.getLastD_eq_getLast?]
  simp [List.getLast?_cons]
abbrev buT (s : Bu) : AV := .tup [avT s.1, .tup (s.2.1.map avQ), nI s.2.2.1, nI s.2.2.2]
abbrev buL (s : Bu) : AV := .lst [avT s.1, .tup (s.2.1.map avQ), nI s.2.2.1, nI s.2.2.2]
theorem bu_dat {m : Nat} (h : 2 ≤ m) (A : Hs) (s : Bu) : optAll (dat m A) [avT s.1, .tup (s.2.1.map avQ), nI s.2.2.1, nI s.2.2.2] = some [(eT eI).dd s.1, (eT eQ).dd s.2.1, .int s.2.2.1, .int s.2.2.2] := by
  show optAll (dat m A) [(eT eI).av s.1, (eT eQ).av s.2.1, eNt.av s.2.2.1, eNt.av s.2.2.2] = _
  unfold optAll
  rw [(eT eI).h m A s.1 (show 0 + 1 ≤ m by omega)]
  dsimp only
  unfold optAll
  rw [(eT eQ).h m A s.2.1 (show 1 + 1 ≤ m by omega)]
  dsimp only
  unfold optAll
  rw [eNt.h m A s.2.2.1 (Nat.zero_le _)]
  dsimp only
  unfold optAll
  rw [eNt.h m A s.2.2.2 (Nat.zero_le _)]
  rfl
theorem bu_eqv (r s : Bu) : PyData.eqvAll [(eT eI).dd r.1, (eT eQ).dd r.2.1, .int r.2.2.1, .int r.2.2.2] [(eT eI).dd s.1, (eT eQ).dd s.2.1, .int s.2.2.1, .int s.2.2.2] = decide (r = s) := by
  obtain ⟨a, b, c, d⟩ := r
  obtain ⟨a', b', c', d'⟩ := s
  have e1 := (eT eI).eqv a a'
  have e2 := (eT eQ).eqv b b'
  rw [Bool.eq_iff_iff, decide_eq_true_iff]
  simp only [PyData.eqv, PyData.eqvAll, e1, e2]
  simp
  intro _ _
  omega
def eBT : Enc Bu := ⟨buT, fun r => .tuple [(eT eI).dd r.1, (eT eQ).dd r.2.1, .int r.2.2.1, .int r.2.2.2], 3, fun n A r hn => by
    obtain ⟨m, rfl⟩ : ∃ m, n = m + 1 := ⟨n - 1, by omega⟩
    show (optAll (dat m A) _).map PyData.tuple = _
    rw [bu_dat (by omega)]
    rfl, fun r s => by
    rw [← bu_eqv]
    simp only [PyData.eqv], fun _ => rfl, fun _ _ => rfl⟩
def eBL : Enc Bu := ⟨buL, fun r => .list [(eT eI).dd r.1, (eT eQ).dd r.2.1, .int r.2.2.1, .int r.2.2.2], 3, fun n A r hn => by
    obtain ⟨m, rfl⟩ : ∃ m, n = m + 1 := ⟨n - 1, by omega⟩
    show (optAll (dat m A) _).map PyData.list = _
    rw [bu_dat (by omega)]
    rfl, fun r s => by
    rw [← bu_eqv]
    simp only [PyData.eqv], fun _ => rfl, fun _ _ => rfl⟩
end Ev
namespace Ev
open PySem PySem.Spec PyProof.Rows L2 Ev
end Ev
namespace Ev
open PySem PySem.Spec PyProof.Rows L2 Ev
theorem lupN_succ (w k : Nat) (late : List Int) (p : Nat) : lupN w (k + 1) late p = if p = 0 then (late, [p], 0) else if ¬ late.getD p 0 < late.getD (par w p) 0 then (late, [p], 1)
    else ((lupN w k (swp late p (par w p)) (par w p)).1, p :: (lupN w k (swp late p (par w p)) (par w p)).2.1, (lupN w k (swp late p (par w p)) (par w p)).2.2 + 1) := rfl
/-- a key that goes up: no fault but at p, and none across p -/
def Ju (w : Nat) (ks : List Int) (p : Nat) : Prop := (∀ q, 0 < q → q < ks.length → q ≠ p → ks.getD (par w q) 0 ≤ ks.getD q 0) ∧ (∀ q, 0 < q → q < ks.length → par w q = p → 0 < p → ks.getD (par w p) 0 ≤ ks.getD q 0)
theorem lup_perm {w : Nat} : ∀ (k p : Nat) (late : List Int), p < late.length → ((lupN w k late p).1).Perm late
  | 0, p, late, h1 => List.Perm.refl _
  | k + 1, p, late, h1 => by
    rw [lupN_succ]
    split
    · exact List.Perm.refl _
    · split
      · exact List.Perm.refl _
      · have hl := par_lt (w := w) (show 0 < p by omega)
        exact (lup_perm k _ _ (by rw [swp_len]; omega)).trans (swp_perm h1 (by omega))
/-- the hole goes down from p; then the key is put there: the row, the place, the way and the looks -/
def holN (m w : Nat) (key : Int) : Nat → List Int → Nat → List Int × Nat × List Nat × Nat
  | 0, late, p => (late.set p key, p, [p], 0)
  | k + 1, late, p => if chN m w p = [] then (late.set p key, p, [p], 0)
    else ((holN m w key k (late.set p (late.getD (least late (chN m w p)) 0)) (least late (chN m w p))).1, (holN m w key k (late.set p (late.getD (least late (chN m w p)) 0)) (least late (chN m w p))).2.1,
      p :: (holN m w key k (late.set p (late.getD (least late (chN m w p)) 0)) (least late (chN m w p))).2.2.1, ((chN m w p).length - 1) + (holN m w key k (late.set p (late.getD (least late (chN m w p)) 0)) (least late (chN m w p))).2.2.2)
/-- heap below a place: no fault at places behind it -/
def Hb (w : Nat) (ks : List Int) (p : Nat) : Prop := ∀ q, 0 < q → q < ks.length → p ≤ par w q → ks.getD (par w q) 0 ≤ ks.getD q 0
end Ev
namespace Ev
open PySem PySem.Spec PyProof.Rows L2 Ev
/-- the way of the hole, and its looks -/
def wayHo (m w : Nat) (ks : List Int) : Nat → Nat → List Nat × Nat
  | 0, p => ([p], 0)
  | k + 1, p => if chN m w p = [] then ([p], 0) else (p :: (wayHo m w ks k (least ks (chN m w p))).1, ((chN m w p).length - 1) + (wayHo m w ks k (least ks (chN m w p))).2)
/-- the row without its last key, which stands at the root -/
def restN (ks : List Int) : List Int := if 1 < ks.length then ks.getD (ks.length - 1) 0 :: (ks.drop 1).take (ks.length - 2) else []
theorem restN_len (ks : List Int) : (restN ks).length = ks.length - 1 := by
  unfold restN
  split
  · simp
    omega
  · simp
    omega
theorem restN_perm {ks : List Int} (h : 0 < ks.length) : (ks.getD 0 0 :: restN ks).Perm ks := by
  obtain ⟨a, l, rfl⟩ : ∃ a l, ks = a :: l := by
    cases ks with
    | nil => cases h
    | cons a l => exact ⟨a, l, rfl⟩
  refine List.Perm.cons a ?_
  unfold restN
  by_cases h1 : 1 < (a :: l).length
  · rw [if_pos h1]
    have hne : l ≠ [] := by intro z; rw [z] at h1; simp at h1
    obtain ⟨i, x, rfl⟩ : ∃ i x, l = i ++ [x] := ⟨l.dropLast, l.getLast hne, (List.dropLast_concat_getLast hne).symm⟩
    have e1 : (a :: (i ++ [x])).getD ((a :: (i ++ [x])).length - 1) 0 = x := by
      simp [List.getD_eq_getElem?_getD]
    have e2 : ((a :: (i ++ [x])).drop 1).take ((a :: (i ++ [x])).length - 2) = i := by
      simp
    rw [e1, e2]
    exact (List.perm_append_singleton x i).symm
  · rw [if_neg h1]
    have : l = [] := by
      cases l with
      | nil => rfl
      | cons b c => simp at h1
    rw [this]
/-- x[1:-1], x[1:], x[:-1], x[-1] -/
theorem cut_in (xs : List AV) : cutA xs (some 1) (some (-1)) = (xs.drop 1).take (xs.length - 2) := by
  unfold cutA HT.sIx
  rcases xs with _ | ⟨a, _ | ⟨b, r⟩⟩
  · rfl
  · rfl
  · simp
    omega
theorem cut_most (xs : List AV) : cutA xs none (some (-1)) = xs.take (xs.length - 1) := by
  unfold cutA HT.sIx
  cases xs with
  | nil => rfl
  | cons a r =>
    simp
    omega
theorem Sq.cut {x : AV} {ns : List Int} (h : Sq x ns) (lo hi : AV) (l u : Option Int) (h1 : optI lo = some l) (h2 : optI hi = some u) (ms : List Int) (hc : cutA (ns.map .int) l u = ms.map .int) (A : Hs) : ∃ y, vSl x lo hi A = .ok y A ∧ Sq y ms := by
  unfold vSl
  rw [h1, h2]
  rcases h with rfl | rfl
  · exact ⟨.tup (ms.map .int), by dsimp only; rw [hc], .inl rfl⟩
  · refine ⟨.lst (ms.map .int), ?_, .inr rfl⟩
    dsimp only
    rw [sql_lst]
    dsimp only
    rw [allI, hc]
    rfl
theorem Sq.last {x : AV} {ns : List Int} (h : Sq x ns) (h0 : 0 < ns.length) {call : CallT} {mt : Nat → Option Nat} (A : Hs) : vIxO call mt x (.int (-1)) A = .ok (.int (ns.getD (ns.length - 1) 0)) A := by
  have hne : ns ≠ [] := by intro z; rw [z] at h0; cases h0
  obtain ⟨i, v, rfl⟩ : ∃ i v, ns = i ++ [v] := ⟨ns.dropLast, ns.getLast hne, (List.dropLast_concat_getLast hne).symm⟩
  have e1 : (i ++ [v]).getD ((i ++ [v]).length - 1) 0 = v := by simp [List.getD_eq_getElem?_getD]
  rw [e1]
  rcases h with rfl | rfl
  · have e : ixN ((i ++ [v]).map AV.int).length (-1) = some i.length := by
      unfold ixN
      simp
      omega
    simp only [List.replicate, Nat.sub_self, Nat.reduceSub, List.append_nil, List.nil_append, List.cons_append, cAnd, cOr, cBin, cUn, cVar, cC, cNot, cIf, cChain, R.bind, RA.bind, dA, List.map_nil, List.getElem?_cons_zero, List.getElem?_cons_succ, List.set_cons_zero, List.set_cons_succ, vIsiC, vIsi, tyA, onB, onBS, pick, Ty.sub, vLe, vLt, vGt, vGe, vAdd, vSub, vMul, vFDiv, vMod, on2I, vNeg, guard', cCall, cMeth, cArgs, aNil, aCons, aApp, cFld, vFld, insOf, cTup, cLst, cLstM, vIntB, vInt, cNu, cTri, cUnd, cRg, kTupA, vIxO, ownC, vIx, seqOf, sqlOf, lstOf, atA, e, Option.bind_some]
    simp
  · exact last_ok (i ++ [v]) v (by simp) A
theorem astar_ok {c : CE} {r : CA} {e : En} {A : Hs} {x : AV} {ns : List Int} {ys : List AV} (hc : c e A = .ok x A) (h : Sq x ns) (hr : r e A = .ok ys A) : aStar c r e A = .ok (ns.map .int ++ ys) A := by
  unfold aStar
  rw [hc]
  dsimp only
  rw [seq_sq h]
  dsimp only
  rw [hr]
theorem clst_ok {a : CA} {e : En} {A : Hs} {ms : List Int} (h : a e A = .ok (ms.map .int) A) (hl : ms.length ≤ 1000) : cLst a e A = .ok (.lst (ms.map .int)) A := by
  unfold cLst cArgs
  rw [h]
  show (if (ms.map AV.int).length ≤ 16777216 then pick (allF (ms.map AV.int)) (R.ok (.lst (ms.map AV.int)) A) R.bad else R.bad) = _
  rw [if_pos (by rw [List.length_map]; omega), allI]
  rfl
end Ev
namespace Ev
open PySem PySem.Spec PyProof.Rows L2
section
variable {s t a b : CS} {c o : CE} {e e1 : En} {A A1 A2 A3 : Hs} {v x y z : AV} {r : RS} {q : R}
theorem w_seq (h : s e A = .nx e1 A1) (k : t e1 A1 = r) : sSeq s t e A = r := (seq_nx h).trans k
theorem w_asg {i : Nat} (h : c e A = .ok v A1) (he : e.set i v = e1) : sAsg c (gN i) e A = .nx e1 A1 := by rw [asg_ok h, he]
theorem w_asgG {g : CG} (h : c e A = .ok v A1) (k : g v e A1 = .ok e1 A2) : sAsg c g e A = .nx e1 A2 := by unfold sAsg; rw [h]; dsimp only; rw [k]
theorem w_if {t : Bool} (h : c e A = .ok (.bl t) A1) (k : cond t (a e A1) (b e A1) = r) : sIf c a b e A = r := by
  cases t with
  | true => exact (if_t h).trans k
  | false => exact (if_f h).trans k
theorem w_ret (h : c e A = .ok v A1) : sRet c e A = .rt v A1 := ret_ok h
theorem w_expr (h : c e A = .ok v A1) : sExpr c e A = .nx e A1 := expr_ok h
theorem w_nil : sNil e A = .nx e A := rfl
theorem w_bin {f : AV → AV → Hs → R} {c d : CE} (h1 : c e A = .ok x A1) (h2 : d e A1 = .ok y A2) (k : f x y A2 = q) : cBin f c d e A = q := (bin_ok h1 h2).trans k
theorem w_un {f : AV → Hs → R} (h : c e A = .ok x A1) (k : f x A1 = q) : cUn f c e A = q := (un_ok h).trans k
theorem w_fld {ix : Nat → Option Nat} (h : c e A = .ok x A1) (k : vFld ix x A1 = q) : cFld ix c e A = q := (un_ok h).trans k
theorem w_tri {f : AV → AV → AV → Hs → R} {c d g : CE} {A3 : Hs} (h1 : c e A = .ok x A1) (h2 : d e A1 = .ok y A2) (h3 : g e A2 = .ok z A3) (k : f x y z A3 = q) : cTri f c d g e A = q := by
  unfold cTri; rw [h1]; dsimp only [R.bind]; rw [h2]; dsimp only [R.bind]; rw [h3]; exact k
theorem w_ife {t a b : CE} {k : Bool} (h : t e A = .ok (.bl k) A1) (g : cond k (a e A1) (b e A1) = q) : cIf t a b e A = q := by
  cases k with
  | true => exact (ife_t h).trans g
  | false => exact (ife_f h).trans g
theorem w_and {a b : CE} {k : Bool} (h : a e A = .ok (.bl k) A1) (g : cond k (b e A1) (.ok (.bl false) A1) = q) : cAnd a b e A = q := by
  cases k with
  | true => exact (and_t h).trans g
  | false => exact (and_f h).trans g
theorem w_or {a b : CE} {k : Bool} (h : a e A = .ok (.bl k) A1) (g : cond k (.ok (.bl true) A1) (b e A1) = q) : cOr a b e A = q := by
  cases k with
  | true => exact (or_t h).trans g
  | false => exact (or_f h).trans g
theorem w_not {a : CE} {k : Bool} (h : a e A = .ok (.bl k) A1) : cNot a e A = .ok (.bl !k) A1 := not_ok h
theorem w_chain {f g : AV → AV → Hs → R} {c d k : CE} {t : Bool} {w : AV} {A3 A4 : Hs} (h1 : c e A = .ok x A1) (h2 : d e A1 = .ok y A2) (h3 : f x y A2 = .ok (.bl t) A3) (h4 : cond t (cBin g (fun _ B => .ok y B) k e A3) (.ok (.bl false) A3) = q) : cChain f g c d k e A = q := by
  unfold cChain
  rw [h1]; dsimp only [R.bind]; rw [h2]; dsimp only [R.bind]; rw [h3]
  cases t <;> exact h4
theorem w_call0 {call : CallT} {f : Nat} {a : CA} {xs : List AV} (h : a e A = .ok xs A1) (k : call f xs A1 = q) : cCall call f [] a e A = q := by rw [call_ok h, List.append_nil]; exact k
theorem w_call1 {call : CallT} {f : Nat} {a : CA} {d x1 : AV} (h : a e A = .ok [x1] A1) (k : call f [x1, d] A1 = q) : cCall call f [d] a e A = q := by rw [call_ok h]; exact k
theorem w_call2 {call : CallT} {f : Nat} {a : CA} {d x1 x2 : AV} (h : a e A = .ok [x1, x2] A1) (k : call f [x1, x2, d] A1 = q) : cCall call f [d] a e A = q := by rw [call_ok h]; exact k
theorem w_call3 {call : CallT} {f : Nat} {a : CA} {d x1 x2 x3 : AV} (h : a e A = .ok [x1, x2, x3] A1) (k : call f [x1, x2, x3, d] A1 = q) : cCall call f [d] a e A = q := by rw [call_ok h]; exact k
theorem w_app {a b : CA} {xs ys zs : List AV} (h1 : a e A = .ok xs A1) (h2 : b e A1 = .ok ys A2) (h3 : xs ++ ys = zs) : aApp a b e A = .ok zs A2 := by unfold aApp; rw [h1]; dsimp only; rw [h2, ← h3]
theorem w_tup {a : CA} {xs : List AV} (h : a e A = .ok xs A1) (hl : xs.length ≤ 16777216) (hm : mkT xs = v) : cTup a e A = .ok v A1 := by
  unfold cTup cArgs; rw [h]; dsimp only [RA.bind]; rw [if_pos hl, hm]
theorem mk_tup {xs : List AV} (h : allF xs = true) : mkT xs = .tup xs := by unfold mkT; rw [h]
theorem hd_mk {xs : List AV} (h : mkT xs = v) : mkT xs = v := h
theorem w_methO {call : CallT} {mt : Nat → Option (Nat × List Int)} {a : CA} {n f : Nat} {fs xs : List AV} (ho : o e A = .ok (.obj n fs) A1) (hm : mt n = some (f, [])) (ha : a e A1 = .ok xs A2) (k : call f (.obj n fs :: xs) A2 = q) : cMeth call mt o a e A = q := by
  unfold cMeth; rw [ho]; dsimp only [insOf]; rw [hm]; dsimp only; rw [ha]; dsimp only; rw [show (AV.obj n fs :: xs) ++ dA [] = AV.obj n fs :: xs from List.append_nil _]; exact k
theorem w_methK {call : CallT} {mt : Nat → Option Nat} {a b : CA} {n f i j : Nat} {fs xs ys us : List AV} (ho : o e A = .ok (.obj n fs) A1) (hm : mt n = some f) (ha : a e A1 = .ok xs A2) (hb : b e A2 = .ok ys A3) (hc : (Nat.beq xs.length i && Nat.beq ys.length j) = true) (hu : xs ++ ys = us) (k : call f (.obj n fs :: us) A3 = q) : cMethK call mt i j o a b e A = q := by
  unfold cMethK; rw [ho]; dsimp only [insOf]; rw [hm]; dsimp only; rw [ha]; dsimp only; rw [hb]; dsimp only; unfold guard'; rw [hc, hu]; exact k
theorem hd_mt1 {mt : Nat → Option Nat} {n p : Nat} (h : mt n = some p) : mt n = some p := h
theorem hd_bq {a b c d : Nat} (h : (Nat.beq a b && Nat.beq c d) = true) : (Nat.beq a b && Nat.beq c d) = true := h
theorem hd_mt {mt : Nat → Option (Nat × List Int)} {n : Nat} {p : Nat × List Int} (h : mt n = some p) : mt n = some p := h
theorem w_new {call : CallT} {n i : Nat} {keep : Bool} {a : CA} {xs : List AV} (h : a e A = .ok xs A1) (k : vNew call n i keep xs A1 = q) : cNew call n i keep [] a e A = q := by
  unfold cNew cArgs; rw [h]; dsimp only [RA.bind]; rw [List.append_nil]; exact k
theorem w_lst {a : CA} {xs : List AV} (h : a e A = .ok xs A1) (hl : xs.length ≤ 16777216) (hf : allF xs = true) : cLst a e A = .ok (.lst xs) A1 := by
  unfold cLst cArgs; rw [h]; dsimp only [RA.bind]; rw [if_pos hl, hf]; rfl
theorem w_lstM {a : CA} {xs : List AV} {n : Nat} (h : a e A = .ok xs A1) (hl : xs.length ≤ 16777216) (hn : A1.length = n) (h2 : A1 ++ [.lst xs] = A2) : cLstM a e A = .ok (.ref n) A2 := by
  unfold cLstM cArgs; rw [h]; dsimp only [RA.bind]; rw [if_pos hl, hn, h2]
theorem w_nu {i : Int} (h : c e A = .ok (.int i) A1) : cNu c e A = .ok (.int i) A1 := by unfold cNu; rw [h]
theorem w_ml {f : AV → List AV → Hs → R} {a : CA} {xs : List AV} (ho : o e A = .ok x A1) (hl : isL A1 x = true) (ha : a e A1 = .ok xs A2) (k : f x xs A2 = q) : cML f o a e A = q := by
  unfold cML; rw [ho]; dsimp only [R.bind]; unfold guard'; rw [hl]; dsimp only; rw [ha]; exact k
end
theorem sel_t {α : Type} {t : Bool} {x y z : α} (h : t = true) (k : x = z) : cond t x y = z := by rw [h]; exact k
theorem sel_f {α : Type} {t : Bool} {x y z : α} (h : t = false) (k : y = z) : cond t x y = z := by rw [h]; exact k
theorem w_var {e : En} {A : Hs} {i : Nat} {v : AV} (h : e[i]? = some v) (hu : v ≠ .und) : cVar i e A = .ok v A := var_ok h hu
theorem w_c {e : En} {A : Hs} {v : AV} : cC v e A = .ok v A := rfl
theorem w_und {e : En} {A : Hs} : cUnd e A = .ok .und A := rfl
theorem Sq.nund {x : AV} {ns : List Int} (h : Sq x ns) : x ≠ .und := by rcases h with rfl | rfl <;> (intro z; cases z)
section
variable {f g : AV → AV → Hs → R} {x y : AV} {A : Hs} {q : R} {ix : Nat → Option Nat}
theorem hd_fld (h : vFld ix x A = q) : vFld ix x A = q := h
theorem hd_add (h : vAdd x y A = q) : vAdd x y A = q := h
theorem hd_sub (h : vSub x y A = q) : vSub x y A = q := h
theorem hd_mul (h : vMul x y A = q) : vMul x y A = q := h
theorem hd_mod (h : vMod x y A = q) : vMod x y A = q := h
theorem hd_fdiv (h : vFDiv x y A = q) : vFDiv x y A = q := h
theorem hd_lt (h : vLt x y A = q) : vLt x y A = q := h
theorem hd_le (h : vLe x y A = q) : vLe x y A = q := h
theorem hd_gt (h : vGt x y A = q) : vGt x y A = q := h
theorem hd_ge (h : vGe x y A = q) : vGe x y A = q := h
theorem hd_ltT (h : vLtT x y A = q) : vLtT x y A = q := h
theorem hd_leT (h : vLeT x y A = q) : vLeT x y A = q := h
theorem hd_gtT (h : vGtT x y A = q) : vGtT x y A = q := h
theorem hd_geT (h : vGeT x y A = q) : vGeT x y A = q := h
theorem hd_neg (h : vNeg x A = q) : vNeg x A = q := h
theorem hd_ixT {call : CallT} {mt : Nat → Option Nat} {a : AV} {l : List AV} (h : vIxO call mt (.tup (a :: l)) x A = q) : vIxO call mt (.tup (a :: l)) x A = q := h
theorem hd_intB (h : vIntB x A = q) : vIntB x A = q := h
end
theorem hd_gtup {n : Nat} {r : List AV → En → Hs → RG} {v : AV} {e : En} {A : Hs} {q : RG} (h : gTup' n r v e A = q) : gTup' n r v e A = q := h
section
variable {e e1 : En} {A A1 : Hs} {i j k m : Nat} {u v w x : AV} {ca : CA}
theorem w_g2 (h : (e.set i u).set j v = e1) : gTup' 2 (gsCons (gN i) (gsCons (gN j) gsNil)) (.tup [u, v]) e A = .ok e1 A := by subst h; rfl
theorem w_g3 (h : ((e.set i u).set j v).set k w = e1) : gTup' 3 (gsCons (gN i) (gsCons (gN j) (gsCons (gN k) gsNil))) (.tup [u, v, w]) e A = .ok e1 A := by subst h; rfl
theorem w_p2 (h : ca e A = .ok [u, v] A1) (he : (e.set i u).set j v = e1) : sPar [i, j] ca e A = .nx e1 A1 := by subst he; exact par_ok h
theorem w_p3 (h : ca e A = .ok [u, v, w] A1) (he : ((e.set i u).set j v).set k w = e1) : sPar [i, j, k] ca e A = .nx e1 A1 := by subst he; exact par3_ok h
end
section
variable {o : CE} {a : CA} {e : En} {A A1 A2 A3 : Hs} {i : Nat} {xs x0 : List AV} {y : AV}
theorem w_append (ho : o e A = .ok (.ref i) A1) (hi : A1[i]? = some (.lst x0)) (ha : a e A1 = .ok [y] A2) (hc : A2[i]? = some (.lst xs)) (hl : xs.length + 1 ≤ 16777216) (hs : A2.set i (.lst (xs ++ [y])) = A3) : cML vAppend o a e A = .ok .non A3 := by
  refine w_ml ho (isL_at hi) ha ?_
  rw [app_at hc hl, hs]
theorem w_clear (ho : o e A = .ok (.ref i) A1) (hi : A1[i]? = some (.lst x0)) (hs : A1.set i (.lst []) = A3) : cML vClear o aNil e A = .ok .non A3 := by
  refine w_ml ho (isL_at hi) anil_ok ?_
  unfold vClear onCell
  dsimp only
  rw [hi]
  dsimp only
  rw [hs]
end
theorem hd_cell {A : Hs} {i : Nat} {x : List AV} (h : A[i]? = some (.lst x)) : A[i]? = some (.lst x) := h
theorem hd_l1 {xs : List AV} (h : xs.length + 1 ≤ 16777216) : xs.length + 1 ≤ 16777216 := h
theorem hd_len {l : List AV} (h : l.length ≤ 16777216) : l.length ≤ 16777216 := h
theorem hd_allF {l : List AV} (h : allF l = true) : allF l = true := h
theorem sq_tup {x : AV} {l : List Int} (h : Sq x l) (A : Hs) : vTuple x A = .ok (avT l) A := by
  rcases h with rfl | rfl
  · show guard' (allF (l.map AV.int)) (R.ok (.tup (l.map AV.int)) A) = _
    rw [allI]
    rfl
  · show guard' (allF (l.map AV.int)) (R.ok (.tup (l.map AV.int)) A) = _
    rw [allI]
    rfl
theorem sq_lstU {x : AV} {ks : List Int} (h : Sq x ks) (call : CallT) (ix mt : Nat → Option Nat) (A : Hs) : vListU call ix mt x A = .ok (.lst (ks.map .int)) A := by
  rcases h with rfl | rfl
  · show guard' (allF (ks.map AV.int)) (R.ok (.lst (ks.map AV.int)) A) = _
    rw [allI]
    rfl
  · show guard' (allF (ks.map AV.int)) (R.ok (.lst (ks.map AV.int)) A) = _
    rw [allI]
    rfl
theorem sq_ix {x : AV} {ks : List Int} (h : Sq x ks) {p : Nat} (hp : p < ks.length) (call : CallT) (mt : Nat → Option Nat) (A : Hs) : vIxO call mt x (.int (p : Int)) A = .ok (.int (ks.getD p 0)) A := h.ix p _ (getD_some hp) A
theorem sq_ix0 {x : AV} {ks : List Int} (h : Sq x ks) (hp : 0 < ks.length) (call : CallT) (mt : Nat → Option Nat) (A : Hs) : vIxO call mt x (.int 0) A = .ok (.int (ks.getD 0 0)) A := h.ix 0 _ (getD_some hp) A
theorem sq_last {x : AV} {ks : List Int} (h : Sq x ks) (hp : 0 < ks.length) (call : CallT) (mt : Nat → Option Nat) (A : Hs) : vIxO call mt x (.int (-1)) A = .ok (.int (ks.getD (ks.length - 1) 0)) A := h.last hp A
theorem add_l {r l : List Int} (A : Hs) (h : r.length + l.length ≤ 1000) : vAdd (.lst (r.map .int)) (.lst (l.map .int)) A = .ok (.lst ((r ++ l).map .int)) A := by
  rw [List.map_append]
  exact cat_av _ _ A (by rw [← List.map_append]; exact allI _) (by simp only [List.length_map]; omega)
theorem cut_dropN (xs : List AV) (k : Nat) : cutA xs (some (k : Int)) none = xs.drop k := by
  unfold cutA
  simp only [HT.sIx_none, HT.sIx_nat]
  rcases Nat.le_total k xs.length with h | h
  · rw [Nat.min_eq_left h]
    exact List.take_of_length_le (by simp)
  · rw [Nat.min_eq_right h, Nat.sub_self, List.take_zero, List.drop_of_length_le h]
theorem cut_takeN (xs : List AV) (k : Nat) : cutA xs none (some (k : Int)) = xs.take k := by
  unfold cutA
  simp only [HT.sIx_none, HT.sIx_nat, List.drop_zero, Nat.sub_zero]
  rcases Nat.le_total k xs.length with h | h
  · rw [Nat.min_eq_left h]
  · rw [Nat.min_eq_right h, List.take_length, List.take_of_length_le h]
theorem sl_take {ks : List Int} (k : Nat) (A : Hs) : vSl (.lst (ks.map .int)) .und (.int (k : Int)) A = .ok (.lst ((ks.take k).map .int)) A := by
  show guard' (allF (ks.map AV.int)) (R.ok (.lst (cutA (ks.map AV.int) none (some (k : Int)))) A) = _
  rw [cut_takeN, allI, ← List.map_take]
  rfl
theorem sl_drop {ks : List Int} (k : Nat) (A : Hs) : vSl (.lst (ks.map .int)) (.int (k : Int)) .und A = .ok (.lst ((ks.drop k).map .int)) A := by
  show guard' (allF (ks.map AV.int)) (R.ok (.lst (cutA (ks.map AV.int) (some (k : Int)) none)) A) = _
  rw [cut_dropN, allI, ← List.map_drop]
  rfl
theorem sl_takeT {ks : List Int} (k : Nat) (A : Hs) : vSl (avT ks) .und (.int (k : Int)) A = .ok (avT (ks.take k)) A := by
  show R.ok (.tup (cutA (ks.map AV.int) none (some (k : Int)))) A = _
  rw [cut_takeN, ← List.map_take]
  rfl
theorem sl_dropT {ks : List Int} (k : Nat) (A : Hs) : vSl (avT ks) (.int (k : Int)) .und A = .ok (avT (ks.drop k)) A := by
  show R.ok (.tup (cutA (ks.map AV.int) (some (k : Int)) none)) A = _
  rw [cut_dropN, ← List.map_drop]
  rfl
theorem hd_e {a b : List AV} (h : a = b) : a = b := h
theorem hd_h {a b : List Cell} (h : a = b) : a = b := h
theorem hd_n {a b : Nat} (h : a = b) : a = b := h
theorem w_gN {i : Nat} {v : AV} {e e1 : En} {A : Hs} (h : e.set i v = e1) : gN i v e A = .ok e1 A := by rw [← h]; rfl
theorem hp_ok {w : Nat} {ks : List Int} (h : Hp w 0 ks) : faultN ks w = [] := faultN_nil.mpr fun p hp h0 => h p h0 hp (Nat.zero_le _)
theorem r_ok {v w : AV} {A B : Hs} (h : v = w) (h2 : A = B) : R.ok v A = R.ok w B := by rw [h, h2]
theorem sl_d1 {ks : List Int} (A : Hs) : vSl (.lst (ks.map .int)) (.int 1) .und A = .ok (.lst ((ks.drop 1).map .int)) A := sl_drop 1 A
theorem sl_d1T {ks : List Int} (A : Hs) : vSl (avT ks) (.int 1) .und A = .ok (avT (ks.drop 1)) A := sl_dropT 1 A
theorem sl_m1 {ks : List Int} (A : Hs) : vSl (.lst (ks.map .int)) .und (.int (-1)) A = .ok (.lst ((ks.take (ks.length - 1)).map .int)) A := by
  show guard' (allF (ks.map AV.int)) (R.ok (.lst (cutA (ks.map AV.int) none (some (-1)))) A) = _
  rw [cut_most, allI, List.length_map, ← List.map_take]
  rfl
theorem sl_m1T {ks : List Int} (A : Hs) : vSl (avT ks) .und (.int (-1)) A = .ok (avT (ks.take (ks.length - 1))) A := by
  show R.ok (.tup (cutA (ks.map AV.int) none (some (-1)))) A = _
  rw [cut_most, List.length_map, ← List.map_take]
  rfl
theorem in_nl {call : CallT} {mt : Nat → Option Nat} (p : Nat) (l : List Nat) (A : Hs) : vInO call mt (nI p) (.lst (l.map nI)) A = .ok (.bl (decide (p ∈ l))) A := inO_lst eNt (by decide) call mt p l A
theorem in_nt {call : CallT} {mt : Nat → Option Nat} (p : Nat) (l : List Nat) (A : Hs) : vInO call mt (nI p) (.tup (l.map nI)) A = .ok (.bl (decide (p ∈ l))) A := inO_tup eNt (by decide) call mt p l A
theorem nin_nl {call : CallT} {mt : Nat → Option Nat} (p : Nat) (l : List Nat) (A : Hs) : vNotInO call mt (nI p) (.lst (l.map nI)) A = .ok (.bl (!decide (p ∈ l))) A := notInO_lst eNt (by decide) call mt p l A
theorem nin_nt {call : CallT} {mt : Nat → Option Nat} (p : Nat) (l : List Nat) (A : Hs) : vNotInO call mt (nI p) (.tup (l.map nI)) A = .ok (.bl (!decide (p ∈ l))) A := notInO_tup eNt (by decide) call mt p l A







end Ev
namespace Ev
open PySem PySem.Spec PyProof.Rows L2
def WpP (q : RS) (N : En → Hs → Prop) (T : AV → Hs → Prop) (K : En → Hs → Prop) : Prop := match q with
  | .nx e A => N e A
  | .rt v A => T v A
  | .bk e A => K e A
  | .bad => False
/-- closed: its unfolding would run the code -/
structure Wp (q : RS) (N : En → Hs → Prop) (T : AV → Hs → Prop) (K : En → Hs → Prop) : Prop where
  go : WpP q N T K
theorem Wp.n {e : En} {A : Hs} {N K : En → Hs → Prop} {T : AV → Hs → Prop} (h : Wp (.nx e A) N T K) : N e A := h.go
theorem Wp.r {v : AV} {A : Hs} {N K : En → Hs → Prop} {T : AV → Hs → Prop} (h : Wp (.rt v A) N T K) : T v A := h.go
theorem Wp.b {e : En} {A : Hs} {N K : En → Hs → Prop} {T : AV → Hs → Prop} (h : Wp (.bk e A) N T K) : K e A := h.go
theorem Wp.f {N K : En → Hs → Prop} {T : AV → Hs → Prop} (h : Wp .bad N T K) : False := h.go
section
variable {s t a b : CS} {c : CE} {e e1 : En} {A A1 A2 : Hs} {v : AV} {N K : En → Hs → Prop} {T : AV → Hs → Prop}
theorem wp_nx (h : s e A = .nx e1 A1) (k : N e1 A1) : Wp (s e A) N T K := ⟨by rw [h]; exact k⟩
theorem wp_seq (h : Wp (s e A) (fun e1 A1 => Wp (t e1 A1) N T K) T K) : Wp (sSeq s t e A) N T K := by
  unfold sSeq
  cases q : s e A with
  | nx e1 A1 => rw [q] at h; exact h.n
  | rt v A1 => rw [q] at h; exact ⟨h.r⟩
  | bk e1 A1 => rw [q] at h; exact ⟨h.b⟩
  | bad => rw [q] at h; exact ⟨h.f⟩
theorem wp_mono {q : RS} {N' K' : En → Hs → Prop} {T' : AV → Hs → Prop} (h : Wp q N' T' K') (hN : ∀ e A, N' e A → N e A) (hT : ∀ v A, T' v A → T v A) (hK : ∀ e A, K' e A → K e A) : Wp q N T K := by
  cases q with
  | nx e1 A1 => exact ⟨hN _ _ h.n⟩
  | rt v A1 => exact ⟨hT _ _ h.r⟩
  | bk e1 A1 => exact ⟨hK _ _ h.b⟩
  | bad => exact ⟨h.f⟩
theorem wp_asg {g : CG} (h : c e A = .ok v A1) (hg : g v e A1 = .ok e1 A2) (k : N e1 A2) : Wp (sAsg c g e A) N T K := wp_nx (w_asgG h hg) k
theorem wp_expr (h : c e A = .ok v A1) (k : N e A1) : Wp (sExpr c e A) N T K := wp_nx (expr_ok h) k
theorem wp_ret (h : c e A = .ok v A1) (k : T v A1) : Wp (sRet c e A) N T K := ⟨by rw [ret_ok h]; exact k⟩
theorem wp_nil (k : N e A) : Wp (sNil e A) N T K := ⟨k⟩
theorem wp_brk (k : K e A) : Wp (sBrk e A) N T K := ⟨k⟩
theorem wp_if {k : Bool} (h : c e A = .ok (.bl k) A1) (g : cond k (Wp (a e A1) N T K) (Wp (b e A1) N T K)) : Wp (sIf c a b e A) N T K := by
  cases k with
  | true => rw [if_t h]; exact g
  | false => rw [if_f h]; exact g
theorem wp_p2 {i j : Nat} {ca : CA} {u v : AV} (h : ca e A = .ok [u, v] A1) (he : (e.set i u).set j v = e1) (k : N e1 A1) : Wp (sPar [i, j] ca e A) N T K := ⟨by rw [w_p2 h he]; exact k⟩
theorem wp_p3 {i j m : Nat} {ca : CA} {u v w : AV} (h : ca e A = .ok [u, v, w] A1) (he : ((e.set i u).set j v).set m w = e1) (k : N e1 A1) : Wp (sPar [i, j, m] ca e A) N T K := ⟨by rw [w_p3 h he]; exact k⟩
theorem wp_aug {i : Nat} {f : AV → AV → Hs → R} {x y : AV} (h1 : cVar i e A = .ok x A) (h2 : c e A = .ok y A1) (h3 : f x y A1 = .ok v A2) (he : e.set i v = e1) (k : N e1 A2) : Wp (sAug i f c e A) N T K := by
  unfold sAug
  rw [h1]; dsimp only; rw [h2]; dsimp only; rw [h3]; dsimp only; rw [he]; exact ⟨k⟩
theorem wp_for {α : Type} {ci : CI} {g : CG} {M : Nat} (av : α → AV) (l : List α) (S : List α → En → Hs → Prop) (s : Src) (hi : ci e A = .ok s A1) (hs : ∀ A k, s.at A k = some (l.map av)[k]?) (hN : l.length < M) (h : S l e A1)
    (step : ∀ x r e A, S (x :: r) e A → ∃ e1, g (av x) e A = .ok e1 A ∧ Wp (b e1 A) (S r) T N) (k : ∀ e' A', S [] e' A' → N e' A') : Wp (sForI ci g b M e A) N T K := by
  suffices H : ∀ (r pre : List α) (M : Nat) (e : En) (A : Hs), l = pre ++ r → r.length < M → S r e A → Wp (sFor s g b M pre.length e A) N T K by
    unfold sForI
    rw [hi]
    exact H l [] M e A1 rfl hN h
  intro r
  induction r with
  | nil =>
    intro pre M e A hx hN h
    obtain ⟨M, rfl⟩ : ∃ m, M = m + 1 := ⟨M - 1, by simp at hN; omega⟩
    rw [for_stop (by rw [hs, hx]; simp)]
    exact ⟨k e A h⟩
  | cons x r ih =>
    intro pre M e A hx hN h
    obtain ⟨M, rfl⟩ : ∃ m, M = m + 1 := ⟨M - 1, by simp at hN; omega⟩
    obtain ⟨e1, h1, h2⟩ := step x r e A h
    have hat : s.at A pre.length = some (some (av x)) := by rw [hs, hx, List.map_append, List.map_cons, ← List.length_map av, at_app]
    rw [sFor]
    dsimp only
    rw [hat]
    dsimp only
    rw [h1]
    dsimp only
    cases q : b e1 A with
    | nx e2 A2 =>
      rw [q] at h2
      have := ih (pre ++ [x]) M e2 A2 (by rw [hx]; simp) (by simp at hN; omega) h2.n
      rw [List.length_append] at this
      exact this
    | rt v A2 => rw [q] at h2; exact ⟨h2.r⟩
    | bk e2 A2 => rw [q] at h2; exact ⟨h2.b⟩
    | bad => rw [q] at h2; exact ⟨h2.f⟩
theorem wp_while (I : Nat → En → Hs → Prop) (step : ∀ k e A, I k e A → ∃ t, c e A = .ok (.bl t) A ∧ cond t (Wp (b e A) (fun e2 A2 => ∃ k', k' < k ∧ I k' e2 A2) T N) (N e A)) :
    ∀ (M k : Nat) (e : En) (A : Hs), k < M → I k e A → Wp (sWhile c b M e A) N T K := by
  intro M
  induction M with
  | zero => intro k e A h; omega
  | succ M ih =>
    intro k e A hk h
    obtain ⟨t, h1, h2⟩ := step k e A h
    rw [sWhile]
    dsimp only
    rw [h1]
    cases t with
    | false => exact ⟨h2⟩
    | true =>
      show Wp (match b e A with
        | .nx e A => sWhile c b M e A
        | .bk e A => .nx e A
        | .rt v A => .rt v A
        | .bad => .bad) N T K
      have h2 : Wp (b e A) (fun e2 A2 => ∃ k', k' < k ∧ I k' e2 A2) T N := h2
      cases q : b e A with
      | nx e2 A2 =>
        rw [q] at h2
        obtain ⟨k', h3, h4⟩ := h2.n
        exact ih k' e2 A2 (by omega) h4
      | rt v A2 => rw [q] at h2; exact ⟨h2.r⟩
      | bk e2 A2 => rw [q] at h2; exact ⟨h2.b⟩
      | bad => rw [q] at h2; exact ⟨h2.f⟩
theorem sel_tP {t : Bool} {P Q : Prop} (h : t = true) (k : P) : cond t P Q := by rw [h]; exact k
theorem sel_fP {t : Bool} {P Q : Prop} (h : t = false) (k : Q) : cond t P Q := by rw [h]; exact k
end
section
variable {F : Nat → Option FnC} {n f np nl : Nat} {code : CallT → CS} {us : List AV} {A A1 : Hs} {v : AV}
/-- a def's call by what is wanted behind its statements -/
theorem call_wp {r : R} (hF : F f = some ⟨np, nl, .fz, code⟩) (hl : us.length = np) (h : Wp (code (callF F n) (us ++ List.replicate (nl - np) .und) A) (fun _ A' => fin1 A.length .non A' = r) (fun v A' => fin1 A.length v A' = r) (fun _ _ => False)) : callF F (n + 1) f us A = r := by
  unfold callF
  rw [hF]
  dsimp only
  rw [hl, Nat.beq_refl]
  dsimp only [finM]
  cases q : code (callF F n) (us ++ List.replicate (nl - np) .und) A with
  | nx e A' => rw [q] at h; exact h.n
  | rt v A' => rw [q] at h; exact h.r
  | bk e A' => rw [q] at h; exact h.b.elim
  | bad => rw [q] at h; exact h.f.elim
theorem call_wpE {P : R → Prop} (hF : F f = some ⟨np, nl, .fz, code⟩) (hl : us.length = np) (h : Wp (code (callF F n) (us ++ List.replicate (nl - np) .und) A) (fun _ A' => P (fin1 A.length .non A')) (fun v A' => P (fin1 A.length v A')) (fun _ _ => False)) : P (callF F (n + 1) f us A) := by
  unfold callF
  rw [hF]
  dsimp only
  rw [hl, Nat.beq_refl]
  dsimp only [finM]
  cases q : code (callF F n) (us ++ List.replicate (nl - np) .und) A with
  | nx e A' => rw [q] at h; exact h.n
  | rt v A' => rw [q] at h; exact h.r
  | bk e A' => rw [q] at h; exact h.b.elim
  | bad => rw [q] at h; exact h.f.elim
theorem fin_app {v : AV} {A B : Hs} (ha : okA A = true) (hv : isF v = true) : fin1 A.length v (A ++ B) = .ok v A := fin1_F B ha hv
end
end Ev
local macro_rules
  | `(tactic| infer_instance) => `(tactic| (first
  | with_reducible apply Ev.wp_seq
  | (with_reducible apply Ev.wp_asg)
  | with_reducible apply Ev.wp_expr
  | with_reducible apply Ev.wp_ret
  | with_reducible apply Ev.wp_nil
  | with_reducible apply Ev.wp_brk
  | with_reducible apply Ev.wp_if
  | with_reducible apply Ev.wp_p2
  | with_reducible apply Ev.wp_p3
  | with_reducible apply Ev.wp_aug
  | ((with_reducible apply Ev.sel_tP); (first | with_reducible rfl | with_reducible assumption | decide | omega | focus (simp only [decide_eq_true_eq, decide_eq_false_iff_not, Bool.not_eq_true', Bool.not_eq_false', Bool.not_true, Bool.not_false, Bool.not_eq_eq_eq_not, not_true_eq_false, not_false_eq_true, decide_true, decide_false, eq_self, Bool.or_true, Bool.true_or, Bool.or_false, Bool.false_or]; done) | (simp only [decide_eq_true_eq, decide_eq_false_iff_not, Bool.not_eq_true', Bool.not_eq_false', Bool.not_true, Bool.not_false, Bool.not_eq_eq_eq_not]; first | with_reducible assumption | omega)); skip)
  | ((with_reducible apply Ev.sel_fP); (first | with_reducible rfl | with_reducible assumption | decide | omega | focus (simp only [decide_eq_true_eq, decide_eq_false_iff_not, Bool.not_eq_true', Bool.not_eq_false', Bool.not_true, Bool.not_false, Bool.not_eq_eq_eq_not, not_true_eq_false, not_false_eq_true, decide_true, decide_false, eq_self, Bool.or_true, Bool.true_or, Bool.or_false, Bool.false_or]; done) | (simp only [decide_eq_true_eq, decide_eq_false_iff_not, Bool.not_eq_true', Bool.not_eq_false', Bool.not_true, Bool.not_false, Bool.not_eq_eq_eq_not]; first | with_reducible assumption | omega)); skip)
  | (first
  | with_reducible assumption
  | with_reducible exact Ev.w_nil
  | with_reducible apply Ev.w_seq
  | with_reducible apply Ev.w_asg
  | with_reducible apply Ev.w_if
  | with_reducible apply Ev.w_ret
  | with_reducible apply Ev.w_expr
  | with_reducible apply Ev.w_asgG
  | with_reducible apply Ev.w_p2
  | with_reducible apply Ev.w_p3
  | with_reducible apply Ev.w_gN
  | with_reducible apply Ev.w_g2
  | with_reducible apply Ev.w_g3
  | ((with_reducible apply Ev.w_var); exact rfl; (first | (focus (intro z; cases z; done)) | (apply Ev.Sq.nund; assumption) | with_reducible assumption))
  | with_reducible exact Ev.w_c
  | with_reducible exact Ev.w_und
  | with_reducible apply Ev.w_bin
  | with_reducible apply Ev.w_fld
  | with_reducible apply Ev.w_un
  | with_reducible apply Ev.w_tri
  | with_reducible apply Ev.w_ife
  | with_reducible apply Ev.w_and
  | with_reducible apply Ev.w_or
  | with_reducible apply Ev.w_not
  | with_reducible apply Ev.w_nu
  | with_reducible apply Ev.w_chain
  | with_reducible apply Ev.w_call0
  | with_reducible apply Ev.w_call1
  | with_reducible apply Ev.w_call2
  | with_reducible apply Ev.w_call3
  | with_reducible apply Ev.w_app
  | with_reducible apply Ev.acons_ok
  | with_reducible exact Ev.anil_ok
  | with_reducible apply Ev.w_tup
  | ((with_reducible apply Ev.hd_mk); first | exact Ev.mk_tup rfl | exact rfl)
  | with_reducible apply Ev.w_methO
  | ((with_reducible apply Ev.hd_mt); exact rfl)
  | with_reducible apply Ev.w_methK
  | ((with_reducible apply Ev.hd_mt1); exact rfl)
  | ((with_reducible apply Ev.hd_bq); exact rfl)
  | with_reducible apply Ev.w_new
  | with_reducible exact Ev.r_ok rfl rfl
  | with_reducible apply Ev.w_lst
  | with_reducible apply Ev.w_lstM
  | ((with_reducible apply Ev.sel_t); (first | with_reducible rfl | with_reducible assumption | decide | omega | focus (simp only [decide_eq_true_eq, decide_eq_false_iff_not, Bool.not_eq_true', Bool.not_eq_false', Bool.not_true, Bool.not_false, Bool.not_eq_eq_eq_not, not_true_eq_false, not_false_eq_true, decide_true, decide_false, eq_self, Bool.or_true, Bool.true_or, Bool.or_false, Bool.false_or]; done) | (simp only [decide_eq_true_eq, decide_eq_false_iff_not, Bool.not_eq_true', Bool.not_eq_false', Bool.not_true, Bool.not_false, Bool.not_eq_eq_eq_not]; first | with_reducible assumption | omega)); skip)
  | ((with_reducible apply Ev.sel_f); (first | with_reducible rfl | with_reducible assumption | decide | omega | focus (simp only [decide_eq_true_eq, decide_eq_false_iff_not, Bool.not_eq_true', Bool.not_eq_false', Bool.not_true, Bool.not_false, Bool.not_eq_eq_eq_not, not_true_eq_false, not_false_eq_true, decide_true, decide_false, eq_self, Bool.or_true, Bool.true_or, Bool.or_false, Bool.false_or]; done) | (simp only [decide_eq_true_eq, decide_eq_false_iff_not, Bool.not_eq_true', Bool.not_eq_false', Bool.not_true, Bool.not_false, Bool.not_eq_eq_eq_not]; first | with_reducible assumption | omega)); skip)
  | ((with_reducible apply Ev.hd_fld); exact rfl)
  | ((with_reducible apply Ev.hd_add); exact rfl)
  | ((with_reducible apply Ev.hd_sub); exact rfl)
  | ((with_reducible apply Ev.hd_mul); exact rfl)
  | ((with_reducible apply Ev.hd_mod); exact rfl)
  | ((with_reducible apply Ev.hd_fdiv); exact rfl)
  | ((with_reducible apply Ev.hd_lt); exact rfl)
  | ((with_reducible apply Ev.hd_le); exact rfl)
  | ((with_reducible apply Ev.hd_gt); exact rfl)
  | ((with_reducible apply Ev.hd_ge); exact rfl)
  | ((with_reducible apply Ev.hd_ltT); exact rfl)
  | ((with_reducible apply Ev.hd_leT); exact rfl)
  | ((with_reducible apply Ev.hd_gtT); exact rfl)
  | ((with_reducible apply Ev.hd_geT); exact rfl)
  | ((with_reducible apply Ev.hd_intB); exact rfl)
  | ((with_reducible apply Ev.hd_neg); exact rfl)
  | ((with_reducible apply Ev.hd_ixT); exact rfl)
  | with_reducible exact Ev.in_nl _ _ _
  | with_reducible exact Ev.in_nt _ _ _
  | with_reducible exact Ev.nin_nl _ _ _
  | with_reducible exact Ev.nin_nt _ _ _
  | with_reducible exact Ev.in_il _ _ _
  | with_reducible exact Ev.in_it _ _ _
  | ((with_reducible apply Ev.hd_gtup); exact rfl)
  | with_reducible apply Ev.w_append
  | with_reducible apply Ev.w_clear
  | ((with_reducible apply Ev.hd_cell); first | with_reducible exact Ev.get_app | with_reducible assumption | exact rfl)
  | ((with_reducible apply Ev.hd_l1); first | omega | (simp only [List.length_map, List.length_append, List.length_cons, List.length_nil]; omega))
  | with_reducible exact Ev.eq_ii _ _ _
  | with_reducible exact Ev.ne_ii _ _ _
  | with_reducible exact Ev.eq_ll _ _ _
  | with_reducible exact Ev.ne_ll _ _ _
  | with_reducible exact Ev.eq_tt _ _ _
  | with_reducible exact Ev.ne_tt _ _ _
  | ((with_reducible apply Ev.hd_len); exact Nat.le_of_ble_eq_true rfl)
  | ((with_reducible apply Ev.hd_allF); exact rfl)
  | ((with_reducible apply Ev.Sq.len); (first | with_reducible assumption | exact Or.inl rfl | exact Or.inr rfl))
  | ((with_reducible apply Ev.sq_tup); (first | with_reducible assumption | exact Or.inl rfl | exact Or.inr rfl))
  | ((with_reducible apply Ev.sq_lstU); (first | with_reducible assumption | exact Or.inl rfl | exact Or.inr rfl))
  | ((with_reducible apply Ev.sq_ix); (first | with_reducible assumption | exact Or.inl rfl | exact Or.inr rfl); omega)
  | ((with_reducible apply Ev.sq_ix0); (first | with_reducible assumption | exact Or.inl rfl | exact Or.inr rfl); omega)
  | ((with_reducible apply Ev.sq_last); (first | with_reducible assumption | exact Or.inl rfl | exact Or.inr rfl); omega)
  | ((with_reducible apply Ev.add_l); first | omega | (simp only [List.length_map, List.length_append, List.length_cons, List.length_nil, List.length_take, List.length_drop]; omega))
  | with_reducible exact Ev.sl_take _ _
  | with_reducible exact Ev.sl_drop _ _
  | with_reducible exact Ev.sl_d1 _
  | with_reducible exact Ev.sl_d1T _
  | with_reducible exact Ev.sl_m1 _
  | with_reducible exact Ev.sl_m1T _
  | with_reducible exact Ev.sl_takeT _ _
  | with_reducible exact Ev.sl_dropT _ _
  | ((with_reducible apply Ev.sorted_ok); (first | with_reducible assumption | exact Or.inl rfl | exact Or.inr rfl))
  | with_reducible exact Ev.set_app
  | (((first | (with_reducible apply Ev.hd_e) | (with_reducible apply Ev.hd_h) | (with_reducible apply Ev.hd_n)); first | (refine Eq.trans ?_ (Eq.refl ?_); dsimp only [List.set, List.append, List.nil_append, List.cons_append, List.replicate, Nat.reduceSub, List.length_cons, List.length_nil, Nat.reduceAdd, List.map_nil, Ev.dA]; exact rfl) | exact rfl)))))

namespace Ev
open PySem PySem.Spec PyProof.Rows L2
theorem nd_len {α : Type} [DecidableEq α] : ∀ {l m : List α}, l.Nodup → (∀ x ∈ l, x ∈ m) → l.length ≤ m.length
  | [], m, _, _ => Nat.zero_le _
  | a :: l, m, hn, hs => by
    have hn' := List.nodup_cons.mp hn
    have := nd_len (l := l) (m := m.erase a) hn'.2 fun x hx => by
      have hne : x ≠ a := fun z => hn'.1 (z ▸ hx)
      exact (List.mem_erase_of_ne hne).mpr (hs x (List.mem_cons_of_mem _ hx))
    rw [List.length_erase_of_mem (hs a List.mem_cons_self)] at this
    have h0 : 0 < m.length := List.length_pos_of_mem (hs a List.mem_cons_self)
    simp only [List.length_cons]
    omega
abbrev Own := List (Nat × Nat)
def oGet : Own → Nat → Option Nat
  | [], _ => none
  | (k, v) :: r, q => if k = q then some v else oGet r q
def oRep (o : Own) (q p : Nat) : Own := o.map fun x => (x.1, if x.1 = q then p else x.2)
def oPut (o : Own) (q p : Nat) : Own := match oGet o q with
  | some _ => oRep o q p
  | none => o ++ [(q, p)]
def oK (o : Own) : List Nat := o.map (·.1)
def oV (o : Own) : List Nat := o.map (·.2)
theorem oGet_mem {q p : Nat} : ∀ {o : Own}, oGet o q = some p → (q, p) ∈ o
  | [], h => by cases h
  | (k, v) :: r, h => by
    unfold oGet at h
    by_cases e : k = q
    · rw [if_pos e] at h; cases h; subst e; exact List.mem_cons_self
    · rw [if_neg e] at h; exact List.mem_cons_of_mem _ (oGet_mem h)
theorem oGet_of {q p : Nat} : ∀ {o : Own}, (oK o).Nodup → (q, p) ∈ o → oGet o q = some p
  | (k, v) :: r, hn, h => by
    have hn' := List.nodup_cons.mp hn
    unfold oGet
    rcases List.mem_cons.mp h with h | h
    · cases h; rw [if_pos rfl]
    · have : k ≠ q := fun e => hn'.1 (e ▸ List.mem_map.mpr ⟨_, h, rfl⟩)
      rw [if_neg this]
      exact oGet_of hn'.2 h
def goN (rec : Nat → Own → List Nat → Bool × Own × List Nat) (p : Nat) : List Nat → Own → List Nat → Bool × Own × List Nat
  | [], o, s => (false, o, s)
  | q :: r, o, s => if q ∈ s then goN rec p r o s else match oGet o q with
    | none => (true, oPut o q p, s ++ [q])
    | some v => match rec v o (s ++ [q]) with
      | (true, o1, s1) => (true, oPut o1 q p, s1)
      | (false, o1, s1) => goN rec p r o1 s1
def findN (bl : Nat → List Nat) : Nat → Nat → Own → List Nat → Bool × Own × List Nat
  | 0, _, o, s => (false, o, s)
  | f + 1, p, o, s => goN (findN bl f) p (bl p) o s
/-- closed: each one has an owner, and what is below the owner is in it -/
def Clo (bl : Nat → List Nat) (o : Own) (S : Nat → Prop) : Prop := ∀ q, S q → ∃ p, oGet o q = some p ∧ ∀ y ∈ bl p, S y
structure Gd (bl : Nat → List Nat) (m : Nat) (o : Own) : Prop where
  nk : (oK o).Nodup
  ok : ∀ q p, oGet o q = some p → q ∈ bl p ∧ p < m
structure Seen (m : Nat) (s : List Nat) : Prop where
  nd : s.Nodup
  lt : ∀ x ∈ s, x < m
theorem Seen.snoc {m q : Nat} {s : List Nat} (h : Seen m s) (n : q ∉ s) (l : q < m) : Seen m (s ++ [q]) := ⟨List.nodup_append.mpr ⟨h.nd, by simp, fun a ha b hb => by
    rw [List.mem_singleton] at hb
    subst hb
    intro z
    exact n (by rw [← z]; exact ha)⟩, fun x hx => by
  rcases List.mem_append.mp hx with hx | hx
  · exact h.lt x hx
  · rw [List.mem_singleton] at hx; omega⟩
theorem Seen.le {m : Nat} {s : List Nat} (h : Seen m s) : s.length ≤ m := by
  have := nd_len (m := List.range m) h.nd fun x hx => List.mem_range.mpr (h.lt x hx)
  simpa using this
/-- what a search tells -/
structure Fnd (bl : Nat → List Nat) (m p : Nat) (l : List Nat) (o : Own) (s : List Nat) (r : Bool × Own × List Nat) : Prop where
  se : Seen m r.2.2
  sub : ∀ x ∈ s, x ∈ r.2.2
  no : r.1 = false → (∀ x ∈ l, x ∈ r.2.2) ∧ ∀ x ∈ r.2.2, x ∉ s → ∃ v, oGet o x = some v ∧ ∀ y ∈ bl v, y ∈ r.2.2
  ye : r.1 = true → Gd bl m r.2.1 ∧ (∀ x ∈ s, oGet r.2.1 x = oGet o x) ∧ (oV r.2.1).Perm (p :: oV o) ∧ r.2.1.length = o.length + 1
def ownGo (bl : Nat → List Nat) (m : Nat) : List Nat → Own → Own := fun l o => l.foldl (fun o p => (findN bl (m + 1) p o []).2.1) o
def ownN (bl : Nat → List Nat) (m : Nat) : Own := ownGo bl m (List.range m) []
structure OwnI (bl : Nat → List Nat) (m i : Nat) (o : Own) : Prop where
  gd : Gd bl m o
  nv : (oV o).Nodup
  lt : ∀ x ∈ oV o, x < i
  clo : ∀ j, j < i → j ∉ oV o → ∃ S : Nat → Prop, Clo bl o S ∧ ∀ y ∈ bl j, S y
def oInv : Own → Nat → Option Nat
  | [], _ => none
  | (k, v) :: r, p => if v = p then some k else oInv r p
theorem oInv_mem {q p : Nat} : ∀ {o : Own}, oInv o p = some q → (q, p) ∈ o
  | (k, v) :: r, h => by
    unfold oInv at h
    by_cases e : v = p
    · rw [if_pos e] at h; cases h; subst e; exact List.mem_cons_self
    · rw [if_neg e] at h; exact List.mem_cons_of_mem _ (oInv_mem h)
theorem oInv_of {q p : Nat} : ∀ {o : Own}, (oV o).Nodup → (q, p) ∈ o → oInv o p = some q
  | (k, v) :: r, hn, h => by
    have hn' := List.nodup_cons.mp hn
    unfold oInv
    rcases List.mem_cons.mp h with h | h
    · cases h; rw [if_pos rfl]
    · have : v ≠ p := fun e => hn'.1 (e ▸ List.mem_map.mpr ⟨_, h, rfl⟩)
      rw [if_neg this]
      exact oInv_of hn'.2 h
def chnN (o : Own) : Nat → Nat → List Nat
  | 0, p => [p]
  | f + 1, p => p :: match oInv o p with
    | some q => chnN o f q
    | none => []
structure Rl (bl : Nat → List Nat) (m : Nat) : Prop where
  lt : ∀ p q, q ∈ bl p → p < q ∧ q < m
  tr : ∀ a b c, b ∈ bl a → c ∈ bl b → c ∈ bl a
section
variable {bl : Nat → List Nat} {m : Nat} {o : Own}
theorem OwnI.inv (h : OwnI bl m m o) {q p : Nat} : oInv o p = some q ↔ oGet o q = some p := ⟨fun e => oGet_of h.gd.nk (oInv_mem e), fun e => oInv_of h.nv (oGet_mem e)⟩
def headsN (o : Own) (m : Nat) : List Nat := (List.range m).filter fun p => !(oGet o p).isSome
def chainsN (o : Own) (m : Nat) : List (List Nat) := (headsN o m).map (chnN o m)
/-- no two of them, one below the other -/
def Ind (bl : Nat → List Nat) (I : List Nat) : Prop := ∀ a ∈ I, ∀ b ∈ I, b ∉ bl a
structure Kp (bl : Nat → List Nat) (m : Nat) (o : Own) (re me : List Nat) : Prop where
  r1 : ∀ j, j < m → j ∉ oV o → j ∈ re
  r2 : ∀ j ∈ re, j < m ∧ (j ∉ oV o ∨ ∃ q ∈ me, oGet o q = some j)
  r3 : ∀ j ∈ re, ∀ q ∈ bl j, q ∈ me
  r4 : ∀ q ∈ me, ∃ j ∈ re, oGet o q = some j
def keptN (m : Nat) (re me : List Nat) : List Nat := (List.range m).filter fun p => decide (p ∈ re) && !decide (p ∈ me)
end
end Ev
namespace Ev
open PySem PySem.Spec PyProof.Rows L2
def fblN (ks : List Int) (w p : Nat) : List Nat := (subN ks.length w p).filter (fallB ks p)
def owN (ks : List Int) (w : Nat) : Own := ownN (fblN ks w) ks.length
/-- the most places that can be kept -/
def mxN (ks : List Int) (w : Nat) : Nat := (headsN (owN ks w) ks.length).length
/-- places that can be kept -/
structure Keep (ks : List Int) (w : Nat) (I : List Nat) : Prop where
  nd : I.Nodup
  lt : ∀ x ∈ I, x < ks.length
  ind : Ind (fblN ks w) I
def mrGo (ks : List Int) (w : Nat) (kept : List Nat) (least : Int) : Nat → List Int → List Int
  | 0, fd => fd
  | n + 1, fd => mrGo ks w kept least n (fd ++ [if fd.length ∈ kept then ks.getD fd.length 0 else if 0 < fd.length then fd.getD (par w fd.length) 0 else least])
def mrN (ks : List Int) (w : Nat) (kept : List Nat) (least : Int) : List Int := mrGo ks w kept least ks.length []
structure MrI (ks : List Int) (w : Nat) (kept : List Nat) (least : Int) (fd : List Int) : Prop where
  k : ∀ p, p < fd.length → p ∈ kept → fd.getD p 0 = ks.getD p 0
  n : ∀ p, p < fd.length → 0 < p → p ∉ kept → fd.getD p 0 = fd.getD (par w p) 0
  a : ∀ p, p < fd.length → fd.getD p 0 = least ∨ ∃ a ∈ kept, a ∈ wayN w 12 p ∧ fd.getD p 0 = ks.getD a 0
end Ev
namespace Ev
open PySem PySem.Spec PyProof.Rows L2
abbrev kyN (q : Nat) : List Key := [.inl (q : Int)]
def owK (o : Own) : List (List Key) := o.map fun x => kyN x.1
def owX (o : Own) : List AV := o.map fun x => nI x.2
abbrev owD (o : Own) : Cell := .dct false (owK o) (owX o)
def seK (s : List Nat) : List (List Key) := s.map kyN
def seX (s : List Nat) : List AV := s.map fun _ => .bl true
abbrev seD (s : List Nat) : Cell := .dct false (seK s) (seX s)
section
variable {call : CallT} {mt : Nat → Option Nat} {A : Hs} {i : Nat}
end
section
variable {c o ci : CE} {e : En} {A A1 A2 A3 : Hs} {i j : Nat} {v : AV}
end
end Ev
namespace Ev
open PySem PySem.Spec PyProof.Rows L2
def keepB (s : List Int) (i : Nat) : Bool := decide (i = 0) || !decide (s.getD (i - 1) 0 = s.getD i 0)
def lawS (f : List Int → List (List Int)) (s : List Int) (i : Nat) : List (List Int) := if keepB s i then (f (s.eraseIdx i)).map (s.getD i 0 :: ·) else []
def lawL : Nat → List Int → List (List Int)
  | 0, _ => [[]]
  | n + 1, ks => (List.range (srtB iLe ks).length).flatMap (lawS (lawL n) (srtB iLe ks))
theorem iSrt (ks : List Int) : (srtB iLe ks).Pairwise (fun a b => iLe a b = true) := srtB_sorted (le := iLe) (fun a b h => by have := of_decide_eq_false h; exact decide_eq_true (by omega)) (fun a b c h1 h2 => by have := of_decide_eq_true h1; have := of_decide_eq_true h2; exact decide_eq_true (by omega)) ks
theorem srt_le {ks : List Int} {i j : Nat} (hij : i ≤ j) (hj : j < (srtB iLe ks).length) : (srtB iLe ks).getD i 0 ≤ (srtB iLe ks).getD j 0 := by
  by_cases e : i = j
  · subst e; exact Int.le_refl _
  · have h := List.pairwise_iff_getElem.mp (iSrt ks) i j (by omega) hj (by omega)
    rw [List.getD_eq_getElem?_getD, List.getD_eq_getElem?_getD, List.getElem?_eq_getElem (by omega), List.getElem?_eq_getElem hj]
    exact of_decide_eq_true h
end Ev
namespace Ev
open PySem PySem.Spec PyProof.Rows L2
def openN (m w : Nat) (row : List Int) : List Int := ((List.range row.length).filter fun p => decide (chN m w p ≠ []) && decide (row.length ≤ (chN m w p).getLastD 0)).map fun p => row.getD p 0
def goOn (m w : Nat) (left row : List Int) : Bool := decide (left = []) || (decide (row = []) || (match openN m w row with
  | [] => false
  | n :: r => decide (minL r n ≤ left.getD 0 0)))
def leastN (w : Nat) (row left : List Int) : Int := if row = [] then left.getD 0 0 else row.getD (par w row.length) 0
def hT (rec : List Int → List Int → List (List Int)) (w : Nat) (row left : List Int) (i : Nat) : List (List Int) :=
  if leastN w row left ≤ left.getD i 0 ∧ keepB left i = true ∧ (row ≠ [] ∨ i = 0) then rec (row ++ [left.getD i 0]) (left.eraseIdx i) else []
def hfN (m w : Nat) : Nat → List Int → List Int → List (List Int)
  | 0, row, _ => [row]
  | k + 1, row, left => match goOn m w left row with
    | true => (List.range left.length).flatMap (hT (hfN m w k) w row left)
    | false => []
def AscL (l : List Int) : Prop := l.Pairwise (· ≤ ·)
theorem ins_hd {x : Int} : ∀ {l : List Int}, (∀ y ∈ l, x ≤ y) → insB iLe x l = x :: l
  | [], _ => rfl
  | y :: l, h => by
    have := h y (by simp)
    unfold insB iLe
    rw [decide_eq_true this]
theorem srt_asc : ∀ {l : List Int}, AscL l → srtB iLe l = l
  | [], _ => rfl
  | x :: l, h => by
    obtain ⟨h1, h2⟩ := List.pairwise_cons.mp h
    show insB iLe x (srtB iLe l) = _
    rw [srt_asc h2, ins_hd h1]
theorem AscL.erase {l : List Int} (h : AscL l) (i : Nat) : AscL (l.eraseIdx i) := List.Pairwise.sublist (List.eraseIdx_sublist l i) h
theorem AscL.le {l : List Int} (h : AscL l) {i j : Nat} (hij : i ≤ j) (hj : j < l.length) : l.getD i 0 ≤ l.getD j 0 := by
  have := srt_le (ks := l) hij (by rw [srt_asc h]; exact hj)
  rw [srt_asc h] at this
  exact this
def goodH (w : Nat) (R : List Int) : Bool := decide (faultN R w = [])
/-- all heaps of keys -/
def allH (w : Nat) (ks : List Int) : List (List Int) := (lawL ks.length (srtB iLe ks)).filter (goodH w)
end Ev
namespace Ev
open PySem PySem.Spec PyProof.Rows L2
/-- each place of the row is the parent of the next -/
def Down (w : Nat) : List Nat → Prop
  | [] => True
  | [_] => True
  | p :: q :: r => 0 < q ∧ par w q = p ∧ Down w (q :: r)
theorem Down.lt {w : Nat} : ∀ {p : Nat} {r : List Nat}, Down w (p :: r) → ∀ q ∈ r, p < q
  | p, [], _, q, h => by cases h
  | p, a :: r, ⟨h0, h1, h2⟩, q, h => by
    have ha : p < a := by rw [← h1]; exact par_lt h0
    rcases List.mem_cons.mp h with rfl | h
    · exact ha
    · exact Nat.lt_trans ha (Down.lt h2 q h)
theorem Down.two {w : Nat} : ∀ {l : List Nat} {p q : Nat}, Down w (l ++ [p, q]) → 0 < q ∧ par w q = p
  | [], p, q, ⟨h0, h1, _⟩ => ⟨h0, h1⟩
  | [a], p, q, ⟨_, _, h⟩ => Down.two (l := []) h
  | a :: b :: l, p, q, ⟨_, _, h⟩ => Down.two (l := b :: l) h
theorem Down.snoc {w : Nat} : ∀ {l : List Nat} {p q : Nat}, Down w (l ++ [p]) → 0 < q → par w q = p → Down w (l ++ [p, q])
  | [], p, q, _, h0, h1 => ⟨h0, h1, trivial⟩
  | [a], p, q, ⟨g0, g1, g⟩, h0, h1 => ⟨g0, g1, Down.snoc (l := []) g h0 h1⟩
  | a :: b :: l, p, q, ⟨g0, g1, g⟩, h0, h1 => ⟨g0, g1, Down.snoc (l := b :: l) g h0 h1⟩
/-- the way down, told by what follows -/
theorem Down.next {w : Nat} : ∀ {l : List Nat} {i p q : Nat}, Down w l → l[i]? = some p → l[i + 1]? = some q → 0 < q ∧ par w q = p
  | [], _, _, _, _, h, _ => by simp at h
  | [_], _, _, _, _, _, h => by simp at h
  | a :: b :: r, 0, p, q, ⟨h0, h1, _⟩, g1, g2 => by simp at g1 g2; subst g1 g2; exact ⟨h0, h1⟩
  | a :: b :: r, i + 1, p, q, ⟨_, _, h⟩, g1, g2 => Down.next (i := i) h (by simpa using g1) (by simpa using g2)
theorem Down.asc {w : Nat} : ∀ {l : List Nat}, Down w l → l.Pairwise (· < ·)
  | [], _ => List.Pairwise.nil
  | [_], _ => by simp
  | a :: b :: r, h => List.pairwise_cons.mpr ⟨fun q hq => Down.lt h q hq, Down.asc h.2.2⟩
theorem way_snoc (w : Nat) : ∀ k p, ∃ l, wayN w k p = l ++ [p]
  | 0, p => ⟨[], rfl⟩
  | k + 1, 0 => ⟨[], rfl⟩
  | k + 1, q + 1 => ⟨wayN w k (q / w), rfl⟩
theorem way_down (w : Nat) : ∀ k p, Down w (wayN w k p)
  | 0, p => trivial
  | k + 1, 0 => trivial
  | k + 1, q + 1 => by
    obtain ⟨l, hl⟩ := way_snoc w k (q / w)
    have := way_down w k (q / w)
    show Down w (wayN w k (q / w) ++ [q + 1])
    rw [hl] at this ⊢
    rw [List.append_assoc]
    exact this.snoc (by omega) rfl
/-- the end of a way, from a place on -/
theorem Down.from {w pl : Nat} : ∀ {l : List Nat}, Down w l → pl ∈ l → ∃ r, l.filter (fun t => decide (pl ≤ t)) = pl :: r ∧ Down w (pl :: r) ∧ (pl :: r).getLast? = l.getLast? ∧ ∀ t, t ∈ r ↔ t ∈ l ∧ pl < t
  | [], _, h => by cases h
  | a :: l, hd, h => by
    have hlt := Down.lt hd
    by_cases e : a = pl
    · subst e
      refine ⟨l, ?_, hd, rfl, fun t => ⟨fun ht => ⟨List.mem_cons_of_mem _ ht, hlt t ht⟩, fun ⟨h1, h2⟩ => ?_⟩⟩
      · rw [List.filter_eq_self.mpr]
        intro t ht
        rcases List.mem_cons.mp ht with rfl | ht
        · simp
        · have := hlt t ht
          simp; omega
      · rcases List.mem_cons.mp h1 with rfl | h1
        · omega
        · exact h1
    · have hm : pl ∈ l := by
        rcases List.mem_cons.mp h with h | h
        · exact absurd h.symm e
        · exact h
      have ha := hlt pl hm
      have hd' : Down w l := by
        cases l with
        | nil => trivial
        | cons b l => exact hd.2.2
      obtain ⟨r, h1, h2, h3, h4⟩ := Down.from hd' hm
      refine ⟨r, ?_, h2, ?_, fun t => ?_⟩
      · rw [List.filter_cons, if_neg (by simp; omega), h1]
      · rw [h3]
        cases l with
        | nil => cases hm
        | cons b l => rw [List.getLast?_cons_cons]
      · rw [h4]
        constructor
        · rintro ⟨x, y⟩; exact ⟨List.mem_cons_of_mem _ x, y⟩
        · rintro ⟨x, y⟩
          rcases List.mem_cons.mp x with rfl | x
          · omega
          · exact ⟨x, y⟩
end Ev
namespace Ev
open PySem PySem.Spec PyProof.Rows L2
/-- the row in which the key of the last place of a way stands at its first one, the others one step down -/
def undN (R : List Int) (l : List Nat) : List Int := mvN R l.reverse
/-- the places of a way from one on -/
def pathN (w p s : Nat) : List Nat := (wayN w 12 s).filter fun t => decide (p ≤ t)
/-- the row that building brings to a heap with some stops -/
def befN (w : Nat) (H : List Int) : List (Nat × Nat) → List Int
  | [] => H
  | q :: qs => undN (befN w H qs) (pathN w q.1 q.2)
end Ev
namespace Ev
open PySem PySem.Spec PyProof.Rows L2
inductive PW : List Int → List Int → Prop
  | nil : PW [] []
  | cons {a b : Int} {r s : List Int} : a ≤ b → PW r s → PW (a :: r) (b :: s)
theorem PW.len {a b : List Int} (h : PW a b) : a.length = b.length := by
  induction h with
  | nil => rfl
  | cons _ _ ih => simp [ih]
theorem PW.anti {a b : List Int} (h : PW a b) (h2 : PW b a) : a = b := by
  induction h with
  | nil => rfl
  | cons q _ ih =>
    cases h2 with
    | cons q2 t => rw [Int.le_antisymm q q2, ih t]
theorem PW.trans {a b c : List Int} (h : PW a b) (h2 : PW b c) : PW a c := by
  induction h generalizing c with
  | nil => exact h2
  | cons q _ ih =>
    cases h2 with
    | cons q2 t => exact .cons (Int.le_trans q q2) (ih t)
theorem PW.refl : ∀ a : List Int, PW a a
  | [] => .nil
  | a :: r => .cons (Int.le_refl a) (PW.refl r)
theorem PW.take {a b : List Int} (h : PW a b) : ∀ n, PW (a.take n) (b.take n) := by
  induction h with
  | nil => intro n; simp; exact .nil
  | cons q _ ih =>
    intro n
    cases n with
    | zero => exact .nil
    | succ n => exact .cons q (ih n)
abbrev MK : Int := 1000000000
def lowN (w : Nat) (row : List Int) (ps : List Nat) : Nat → List Int
  | 0 => []
  | i + 1 => lowN w row ps i ++ [if i ∈ ps then row.getD i 0 else if 0 < i then (lowN w row ps i).getD (par w i) 0 else -MK]
def upV (m w : Nat) (row : List Int) (ps : List Nat) (p : Nat) : Int := if p ∈ ps then row.getD p 0 else minL (((subN m w p).filter fun q => decide (q ∈ ps)).map fun q => row.getD q 0) MK
def hiN (m w : Nat) (row : List Int) (ps : List Nat) : List Int := (List.range m).map (upV m w row ps)
def otherB (w : Nat) (row : List Int) (count : Nat) (ps : List Nat) (late : List Int) : Bool :=
  decide (late.length = row.length) && (late.all (inR (-MK) · MK) && (decide (faultN late w = []) && (ps.all (fun p => decide (late.getD p 0 = row.getD p 0)) && !decide ((srtB iLe late).take count = (srtB iLe row).take count))))
def nearN (row : List Int) (ds : List Int) : List Int := [-MK] ++ ds.filter (fun k => decide (-MK < k) && decide (k < MK)) ++ [MK]
def rowsN (w : Nat) (row near : List Int) (ps : List Nat) : Nat → List (List Int)
  | 0 => [[]]
  | i + 1 => (rowsN w row near ps i).flatMap fun some => ((if i ∈ ps then [row.getD i 0] else near).filter fun key => decide ((if 0 < i then some.getD (par w i) 0 else -MK) ≤ key)).map fun key => some ++ [key]
def lv (w : Nat) (row : List Int) (ps : List Nat) (p : Nat) : Int := (lowN w row ps (p + 1)).getD p 0
/-- a heap with the same keys at some places, within the bounds -/
structure Agr (w : Nat) (row : List Int) (ps : List Nat) (H : List Int) : Prop where
  len : H.length = row.length
  hp : Hp w 0 H
  lo : ∀ q, q < row.length → -MK ≤ H.getD q 0
  hi : ∀ q, q < row.length → H.getD q 0 ≤ MK
  at_ : ∀ q ∈ ps, H.getD q 0 = row.getD q 0
section
variable {w : Nat} {row : List Int} {ps : List Nat}
theorem Agr.le {H : List Int} (h : Agr w row ps H) {q : Nat} (h0 : 0 < q) (hq : q < row.length) : H.getD (par w q) 0 ≤ H.getD q 0 := h.hp q h0 (by rw [h.len]; exact hq) (Nat.zero_le _)
variable (hw : 1 ≤ w) (hl : row.length ≤ 12) (hR : Agr w row ps row) (hps : ∀ p ∈ ps, p < row.length)
include hw hl hR hps
omit hw hl hR hps in
end
end Ev
namespace Ev
open PySem PySem.Spec PyProof.Rows L2
/-- whether a key can go on in the run -/
def goB (wr : List Int) (k : Int) : Bool := match wr.getLast? with
  | none => true
  | some l => decide (l < k)
def nxK (wr held : List Int) : Int := match held.filter (goB wr) with
  | [] => held.headD 0
  | k :: _ => k
def lawW : Nat → List Int → List Int → List Int → List Int
  | 0, wr, _, _ => wr
  | k + 1, wr, held, rest => match rest with
    | [] => lawW k (wr ++ [nxK wr held]) (held.erase (nxK wr held)) []
    | x :: rs => lawW k (wr ++ [nxK wr held]) (srtB iLe (held.erase (nxK wr held) ++ [x])) rs
/-- the runs of keys -/
def cutS (found : List (List Int)) (key : Int) : List (List Int) := match found.getLast? with
  | none => [[key]]
  | some r => if key < r.getLastD 0 then found ++ [[key]] else found.dropLast ++ [r ++ [key]]
def cutN (l : List Int) : List (List Int) := l.foldl cutS []
end Ev
namespace Ev
open PySem PySem.Spec PyProof.Rows L2
def lastLen (f : List (List Int)) : Nat := (f.getLastD []).length
structure RI3 (room : Nat) (wr held rest : List Int) : Prop where
  full : held.length = room ∨ rest = []
  big : room ≤ lastLen (cutN wr) + held.countP (goB wr) ∨ ((∀ k ∈ held, goB wr k = true) ∧ rest = [])
  old : ∀ r ∈ (cutN wr).dropLast, room ≤ r.length
end Ev
namespace Ev
open PySem PySem.Spec PyProof.Rows L2
section
variable {B : Hs} {i : Nat} {xs : List AV}
theorem sq_ref (hB : B[i]? = some (.lst xs)) : sqlOf B (.ref i) = some xs := by
  show (match B[i]? with | some (.lst xs) => some xs | _ => none) = _
  rw [hB]
end
section
variable {F : Nat → Option FnC} {n f np nl : Nat} {code : CallT → CS} {us : List AV} {A A1 : Hs} {v : AV}
/-- a def that hands out a list that may change further -/
theorem call_wpO {r : R} (hF : F f = some ⟨np, nl, .ou, code⟩) (hl : us.length = np) (h : Wp (code (callF F n) (us ++ List.replicate (nl - np) .und) A) (fun _ A' => fin1 A.length .non A' = r) (fun v A' => finO A.length v A' = r) (fun _ _ => False)) : callF F (n + 1) f us A = r := by
  unfold callF
  rw [hF]
  dsimp only
  rw [hl, Nat.beq_refl]
  dsimp only [finM]
  cases q : code (callF F n) (us ++ List.replicate (nl - np) .und) A with
  | nx e A' => rw [q] at h; exact h.n
  | rt v A' => rw [q] at h; exact h.r
  | bk e A' => rw [q] at h; exact h.b.elim
  | bad => rw [q] at h; exact h.f.elim
theorem finO_new {A : Hs} {xs : List AV} (ha : okA A = true) (hx : allF xs = true) : finO A.length (.ref A.length) (A ++ [.lst xs]) = .ok (.ref A.length) (A ++ [.lst xs]) := by
  unfold finO
  dsimp only
  rw [show Nat.blt A.length A.length = false from by
    cases e : Nat.blt A.length A.length with
    | true => exact absurd (blt_lt e) (Nat.lt_irrefl _)
    | false => rfl]
  dsimp only
  rw [get_app]
  dsimp only
  rw [optAll_F hx]
  dsimp only
  rw [take_app]
  show pick (A.all (lowC A.length)) _ _ = _
  rw [show A.all (lowC A.length) = true from ha]
  rfl
end
section
variable {B : Hs} {i : Nat} {α : Type} [DecidableEq α]
theorem dat_ref (E : Enc α) (hd : E.dep ≤ 39) {xs : List α} (hB : B[i]? = some (.lst (xs.map E.av))) : dat 40 B (.ref i) = some ((eL E).dd xs) := by
  show (match sqlOf B (.ref i) with | some xs => (optAll (dat 39 B) xs).map PyData.list | none => none) = _
  rw [sq_ref hB]
  dsimp only
  rw [optAll_enc E hd]
  rfl
theorem ne_ref (E : Enc α) (hd : E.dep ≤ 39) {xs : List α} (hB : B[i]? = some (.lst (xs.map E.av))) (ys : List α) (call : CallT) (mt : Nat → Option Nat) : vNeO call mt (.ref i) (.lst (ys.map E.av)) B = .ok (.bl (!decide (xs = ys))) B := by
  unfold vNeO ownC
  rw [ins_at hB]
  show vNe (.ref i) ((eL E).av ys) B = _
  unfold vNe on2D
  rw [dat_ref E hd hB, (eL E).h 40 B ys (by show E.dep + 1 ≤ 40; omega)]
  dsimp only
  rw [(eL E).eqv]
end
end Ev
namespace Ev.k09
open PySem PySem.Spec PyProof.Rows L2 Ev
theorem is_number_ok (n : Nat) (x lo hi : Int) (A : Hs) : callF F (n + 1) 1 [.int x, .int lo, .int hi] A = .ok (.bl (inR lo x hi)) A := by
  refine call_rt0 (f := 1) rfl rfl (ret_ok ?_)
  simp only [List.replicate, Nat.sub_self, Nat.reduceSub, List.append_nil, List.nil_append, List.cons_append, cAnd, cOr, cBin, cUn, cVar, cC, cNot, cIf, cChain, R.bind, RA.bind, dA, List.map_nil, List.getElem?_cons_zero, List.getElem?_cons_succ, List.set_cons_zero, List.set_cons_succ, vIsiC, vIsi, tyA, onB, onBS, pick, Ty.sub, vLe, vLt, vGt, vGe, vAdd, vSub, vMul, vFDiv, vMod, on2I, vNeg, guard', cCall, cMeth, cArgs, aNil, aCons, aApp, cFld, vFld, insOf, cTup, cLst, cLstM, vIntB, vInt, cNu, cTri, cUnd, cRg, kTupA, inR]
  by_cases h1 : lo ≤ x <;> by_cases h2 : x ≤ hi <;> simp [h1, h2]
theorem number_ok (n : Nat) (ns : List Int) (h : ns.length ≤ 63) (i : Int) (A : Hs) : ∃ z : Int, callF F (n + 1) 19 [.scr (ns.map .int), .int i] A = .ok (.int z) A := by
  obtain ⟨l1, l2⟩ := cells_len h
  have hL : decide (0 < ((cellsN ns).length : Int)) = true := by simp; omega
  have hL2 : decide (((cellsN ns).length : Int) < 1073741824) = true := by simp; omega
  have hc : vNeO (callF F n) (tm W mx___eq__) (.scr (ns.map .int)) (.lst []) A = .ok (.bl (!decide (ns = []))) A := ne_l0 (call := callF F n) (mt := tm W mx___eq__) ns A
  have hlen : vLenO (callF F n) (tm W mx___len__) (.lst ((cellsN ns).map .int)) A = .ok (.int (cellsN ns).length) A := by
    simp only [List.replicate, Nat.sub_self, Nat.reduceSub, List.append_nil, List.nil_append, List.cons_append, cAnd, cOr, cBin, cUn, cVar, cC, cNot, cIf, cChain, R.bind, RA.bind, dA, List.map_nil, List.getElem?_cons_zero, List.getElem?_cons_succ, List.set_cons_zero, List.set_cons_succ, vIsiC, vIsi, tyA, onB, onBS, pick, Ty.sub, vLe, vLt, vGt, vGe, vAdd, vSub, vMul, vFDiv, vMod, on2I, vNeg, guard', cCall, cMeth, cArgs, aNil, aCons, aApp, cFld, vFld, insOf, cTup, cLst, cLstM, vIntB, vInt, cNu, cTri, cUnd, cRg, kTupA, vLenO, ownC, vLen, seqOf, sqlOf, lstOf, List.length_map]
  have hj : ∃ c, vIxO (callF F n) (tm W mx___getitem__) (.lst ((cellsN ns).map .int)) (.int (i % (cellsN ns).length)) A = .ok (.int c) A := by
    have b1 : 0 ≤ i % ((cellsN ns).length : Int) := Int.emod_nonneg _ (by omega)
    have b2 : i % ((cellsN ns).length : Int) < (cellsN ns).length := Int.emod_lt_of_pos _ (by omega)
    have b3 : (i % ((cellsN ns).length : Int)).toNat < (cellsN ns).length := by omega
    refine ⟨(cellsN ns)[(i % ((cellsN ns).length : Int)).toNat], ?_⟩
    simp only [List.replicate, Nat.sub_self, Nat.reduceSub, List.append_nil, List.nil_append, List.cons_append, cAnd, cOr, cBin, cUn, cVar, cC, cNot, cIf, cChain, R.bind, RA.bind, dA, List.map_nil, List.getElem?_cons_zero, List.getElem?_cons_succ, List.set_cons_zero, List.set_cons_succ, vIsiC, vIsi, tyA, onB, onBS, pick, Ty.sub, vLe, vLt, vGt, vGe, vAdd, vSub, vMul, vFDiv, vMod, on2I, vNeg, guard', cCall, cMeth, cArgs, aNil, aCons, aApp, cFld, vFld, insOf, cTup, cLst, cLstM, vIntB, vInt, cNu, cTri, cUnd, cRg, kTupA, vIxO, ownC, vIx, seqOf, sqlOf, lstOf, atA, ixN, List.length_map, if_pos b1, if_pos b2, Option.bind_some, List.getElem?_map, List.getElem?_eq_getElem b3, Option.map_some]
  obtain ⟨c, hj⟩ := hj
  have hsum : vSum (.lst ((cellsN ns).map .int)) A = .ok (.int (cellsN ns).sum) A := by
    simp only [List.replicate, Nat.sub_self, Nat.reduceSub, List.append_nil, List.nil_append, List.cons_append, cAnd, cOr, cBin, cUn, cVar, cC, cNot, cIf, cChain, R.bind, RA.bind, dA, List.map_nil, List.getElem?_cons_zero, List.getElem?_cons_succ, List.set_cons_zero, List.set_cons_succ, vIsiC, vIsi, tyA, onB, onBS, pick, Ty.sub, vLe, vLt, vGt, vGe, vAdd, vSub, vMul, vFDiv, vMod, on2I, vNeg, guard', cCall, cMeth, cArgs, aNil, aCons, aApp, cFld, vFld, insOf, cTup, cLst, cLstM, vIntB, vInt, cNu, cTri, cUnd, cRg, kTupA, vSum, onInts, sqlOf, lstOf, intsOf_map]
  refine ⟨outN (c + 13 * (i / (cellsN ns).length)) i (cellsN ns).sum, call_rt0 (f := 19) rfl rfl ((seq_nx (asg_ok (v := .lst ((cellsN ns).map .int)) (A' := A) ?_)).trans ((seq_nx (asg_ok (v := .int (c + 13 * (i / (cellsN ns).length))) (A' := A) ?_)).trans ?_))⟩
  · by_cases hn : ns = []
    · refine (ife_f (A' := A) ?_).trans ?_
      · simp only [List.replicate, Nat.sub_self, Nat.reduceSub, List.append_nil, List.nil_append, List.cons_append, cAnd, cOr, cBin, cUn, cVar, cC, cNot, cIf, cChain, R.bind, RA.bind, dA, List.map_nil, List.getElem?_cons_zero, List.getElem?_cons_succ, List.set_cons_zero, List.set_cons_succ, vIsiC, vIsi, tyA, onB, onBS, pick, Ty.sub, vLe, vLt, vGt, vGe, vAdd, vSub, vMul, vFDiv, vMod, on2I, vNeg, guard', cCall, cMeth, cArgs, aNil, aCons, aApp, cFld, vFld, insOf, cTup, cLst, cLstM, vIntB, vInt, cNu, cTri, cUnd, cRg, kTupA, allF, List.length_nil, Nat.zero_le, if_true, hc, decide_eq_true hn, Bool.not_true]
      · subst hn
        rfl
    · refine (ife_t (A' := A) ?_).trans ?_
      · simp only [List.replicate, Nat.sub_self, Nat.reduceSub, List.append_nil, List.nil_append, List.cons_append, cAnd, cOr, cBin, cUn, cVar, cC, cNot, cIf, cChain, R.bind, RA.bind, dA, List.map_nil, List.getElem?_cons_zero, List.getElem?_cons_succ, List.set_cons_zero, List.set_cons_succ, vIsiC, vIsi, tyA, onB, onBS, pick, Ty.sub, vLe, vLt, vGt, vGe, vAdd, vSub, vMul, vFDiv, vMod, on2I, vNeg, guard', cCall, cMeth, cArgs, aNil, aCons, aApp, cFld, vFld, insOf, cTup, cLst, cLstM, vIntB, vInt, cNu, cTri, cUnd, cRg, kTupA, allF, List.length_nil, Nat.zero_le, if_true, hc, decide_eq_false hn, Bool.not_false]
      · simp only [List.replicate, Nat.sub_self, Nat.reduceSub, List.append_nil, List.nil_append, List.cons_append, cAnd, cOr, cBin, cUn, cVar, cC, cNot, cIf, cChain, R.bind, RA.bind, dA, List.map_nil, List.getElem?_cons_zero, List.getElem?_cons_succ, List.set_cons_zero, List.set_cons_succ, vIsiC, vIsi, tyA, onB, onBS, pick, Ty.sub, vLe, vLt, vGt, vGe, vAdd, vSub, vMul, vFDiv, vMod, on2I, vNeg, guard', cCall, cMeth, cArgs, aNil, aCons, aApp, cFld, vFld, insOf, cTup, cLst, cLstM, vIntB, vInt, cNu, cTri, cUnd, cRg, kTupA, vSl, optI, cut63 ns h, sqlOf, show allF (ns.map AV.int) = true from allF_enc eI _, cellsN, decide_eq_false hn]
  · simp only [List.replicate, Nat.sub_self, Nat.reduceSub, List.append_nil, List.nil_append, List.cons_append, cAnd, cOr, cBin, cUn, cVar, cC, cNot, cIf, cChain, R.bind, RA.bind, dA, List.map_nil, List.getElem?_cons_zero, List.getElem?_cons_succ, List.set_cons_zero, List.set_cons_succ, vIsiC, vIsi, tyA, onB, onBS, pick, Ty.sub, vLe, vLt, vGt, vGe, vAdd, vSub, vMul, vFDiv, vMod, on2I, vNeg, guard', cCall, cMeth, cArgs, aNil, aCons, aApp, cFld, vFld, insOf, cTup, cLst, cLstM, vIntB, vInt, cNu, cTri, cUnd, cRg, kTupA, hlen, hj, hL, hL2, Bool.and_self, mulOk_l (a := 13) (b := i / (cellsN ns).length) (by decide) (by decide)]
  · simp only [List.replicate, Nat.sub_self, Nat.reduceSub, List.append_nil, List.nil_append, List.cons_append, cAnd, cOr, cBin, cUn, cVar, cC, cNot, cIf, cChain, R.bind, RA.bind, dA, List.map_nil, List.getElem?_cons_zero, List.getElem?_cons_succ, List.set_cons_zero, List.set_cons_succ, vIsiC, vIsi, tyA, onB, onBS, pick, Ty.sub, vLe, vLt, vGt, vGe, vAdd, vSub, vMul, vFDiv, vMod, on2I, vNeg, guard', cCall, cMeth, cArgs, aNil, aCons, aApp, cFld, vFld, insOf, cTup, cLst, cLstM, vIntB, vInt, cNu, cTri, cUnd, cRg, kTupA, sSeq, sPar, sAsg, gN, sRet, hsum]
    generalize c + 13 * (i / ((cellsN ns).length : Int)) = d
    have q1 : decide ((0 : Int) < 1000003) = true := by decide
    have q2 : decide ((1000003 : Int) < 1073741824) = true := by decide
    have q3 : decide ((0 : Int) < 999983) = true := by decide
    have q4 : decide ((0 : Int) < 65521) = true := by decide
    have q5 : decide ((0 : Int) < 2147483647) = true := by decide
    have q6 : decide ((0 : Int) < 2147483629) = true := by decide
    simp only [List.replicate, Nat.sub_self, Nat.reduceSub, List.append_nil, List.nil_append, List.cons_append, cAnd, cOr, cBin, cUn, cVar, cC, cNot, cIf, cChain, R.bind, RA.bind, dA, List.map_nil, List.getElem?_cons_zero, List.getElem?_cons_succ, List.set_cons_zero, List.set_cons_succ, vIsiC, vIsi, tyA, onB, onBS, pick, Ty.sub, vLe, vLt, vGt, vGe, vAdd, vSub, vMul, vFDiv, vMod, on2I, vNeg, guard', cCall, cMeth, cArgs, aNil, aCons, aApp, cFld, vFld, insOf, cTup, cLst, cLstM, vIntB, vInt, cNu, cTri, cUnd, cRg, kTupA, hsum, q1, q2, q3, q4, q5, q6, Bool.and_self, mulOk_l (a := 977) (b := i) (by decide) (by decide), mulOk_r (a := d % 1000003 + 977 * i) (b := 48271) (by decide) (by decide), mulOk_l (a := 31) (b := d / 1000003 % 999983) (by decide) (by decide), mulOk_l (a := 31) (b := i) (by decide) (by decide)]
    show _ = RS.rt (.int (outN d i (cellsN ns).sum)) A
    unfold outN
    have e : blN d i (cellsN ns).sum = ((d % 1000003 + 977 * i) * 48271 + 31 * (d / 1000003 % 999983) + (cellsN ns).sum % 65521) % 2147483647 := rfl
    rw [e]
    generalize hb : ((d % 1000003 + 977 * i) * 48271 + 31 * (d / 1000003 % 999983) + (cellsN ns).sum % 65521) % 2147483647 = bl
    have b1 : 0 ≤ bl := by rw [← hb]; exact Int.emod_nonneg _ (by decide)
    have b2 : bl < 2147483647 := by rw [← hb]; exact Int.emod_lt_of_pos _ (by decide)
    simp only [List.replicate, Nat.sub_self, Nat.reduceSub, List.append_nil, List.nil_append, List.cons_append, cAnd, cOr, cBin, cUn, cVar, cC, cNot, cIf, cChain, R.bind, RA.bind, dA, List.map_nil, List.getElem?_cons_zero, List.getElem?_cons_succ, List.set_cons_zero, List.set_cons_succ, vIsiC, vIsi, tyA, onB, onBS, pick, Ty.sub, vLe, vLt, vGt, vGe, vAdd, vSub, vMul, vFDiv, vMod, on2I, vNeg, guard', cCall, cMeth, cArgs, aNil, aCons, aApp, cFld, vFld, insOf, cTup, cLst, cLstM, vIntB, vInt, cNu, cTri, cUnd, cRg, kTupA, mulOk_l (a := bl) (b := bl + 31 * i + 7) (by omega) (by omega), mulOk_r (a := bl * (bl + 31 * i + 7) % 2147483629) (b := 65537) (by decide) (by decide)]
    rfl
end Ev.k09
namespace Ev.k09
open PySem PySem.Spec PyProof.Rows L2 Ev
abbrev tr (m w : Int) : AV := .obj 5 [.int w, .int m, .tup (rgA 0 m)]
theorem w_arms : tb W.cl fx_arms 5 = some 0 := rfl
theorem w_many : tb W.cl fx_many 5 = some 1 := rfl
theorem w_places : tb W.cl fx_places 5 = some 2 := rfl
theorem w_check_place : tmd W dx_check_place 5 = some (12, []) := rfl
theorem w_parent : tmd W dx_parent 5 = some (13, []) := rfl
theorem w_contains : tm W mx___contains__ 5 = some 8 := rfl
theorem w_getitem : tm W mx___getitem__ 5 = some 10 := rfl
theorem contains_ok (n : Nat) (m w x : Int) (A : Hs) : callF F (n + 2) 8 [tr m w, .int x] A = .ok (.bl (inR 0 x (m - 1))) A := by
  refine call_rt0 (f := 8) rfl rfl (ret_ok ?_)
  simp only [List.replicate, Nat.sub_self, Nat.reduceSub, List.append_nil, List.nil_append, List.cons_append, cAnd, cOr, cBin, cUn, cVar, cC, cNot, cIf, cChain, R.bind, RA.bind, dA, List.map_nil, List.getElem?_cons_zero, List.getElem?_cons_succ, List.set_cons_zero, List.set_cons_succ, vIsiC, vIsi, tyA, onB, onBS, pick, Ty.sub, vLe, vLt, vGt, vGe, vAdd, vSub, vMul, vFDiv, vMod, on2I, vNeg, guard', cCall, cMeth, cArgs, aNil, aCons, aApp, cFld, vFld, insOf, cTup, cLst, cLstM, vIntB, vInt, cNu, cTri, cUnd, cRg, kTupA, w_many, is_number_ok]
theorem check_place_ok (n : Nat) (m w x : Int) (A : Hs) (h0 : 0 ≤ x) (h1 : x < m) : callF F (n + 3) 12 [tr m w, .int x] A = .ok .non A := by
  refine call_nx0 (f := 12) rfl rfl (if_f ?_)
  simp only [List.replicate, Nat.sub_self, Nat.reduceSub, List.append_nil, List.nil_append, List.cons_append, cAnd, cOr, cBin, cUn, cVar, cC, cNot, cIf, cChain, R.bind, RA.bind, dA, List.map_nil, List.getElem?_cons_zero, List.getElem?_cons_succ, List.set_cons_zero, List.set_cons_succ, vIsiC, vIsi, tyA, onB, onBS, pick, Ty.sub, vLe, vLt, vGt, vGe, vAdd, vSub, vMul, vFDiv, vMod, on2I, vNeg, guard', cCall, cMeth, cArgs, aNil, aCons, aApp, cFld, vFld, insOf, cTup, cLst, cLstM, vIntB, vInt, cNu, cTri, cUnd, cRg, kTupA, vNotInO, ownC, w_contains, contains_ok, inR_t h0 (show x ≤ m - 1 by omega), onBl, Bool.not_true]
theorem parent_ok (n : Nat) (m w x : Int) (A : Hs) (h0 : 0 ≤ x) (h1 : x < m) (hw : 0 < w) (hw4 : w ≤ 4) : callF F (n + 4) 13 [tr m w, .int x] A = .ok (if 0 < x then .int ((x - 1) / w) else .non) A := by
  refine call_rt0 (f := 13) rfl rfl ((seq_nx (expr_ok (v := .non) (A' := A) ?_)).trans (ret_ok ?_))
  ·     simp only [List.replicate, Nat.sub_self, Nat.reduceSub, List.append_nil, List.nil_append, List.cons_append, cAnd, cOr, cBin, cUn, cVar, cC, cNot, cIf, cChain, R.bind, RA.bind, dA, List.map_nil, List.getElem?_cons_zero, List.getElem?_cons_succ, List.set_cons_zero, List.set_cons_succ, vIsiC, vIsi, tyA, onB, onBS, pick, Ty.sub, vLe, vLt, vGt, vGe, vAdd, vSub, vMul, vFDiv, vMod, on2I, vNeg, guard', cCall, cMeth, cArgs, aNil, aCons, aApp, cFld, vFld, insOf, cTup, cLst, cLstM, vIntB, vInt, cNu, cTri, cUnd, cRg, kTupA, w_check_place, dA, List.map_nil, check_place_ok n m w x A h0 h1]
  · simp only [List.replicate, Nat.sub_self, Nat.reduceSub, List.append_nil, List.nil_append, List.cons_append, cAnd, cOr, cBin, cUn, cVar, cC, cNot, cIf, cChain, R.bind, RA.bind, dA, List.map_nil, List.getElem?_cons_zero, List.getElem?_cons_succ, List.set_cons_zero, List.set_cons_succ, vIsiC, vIsi, tyA, onB, onBS, pick, Ty.sub, vLe, vLt, vGt, vGe, vAdd, vSub, vMul, vFDiv, vMod, on2I, vNeg, guard', cCall, cMeth, cArgs, aNil, aCons, aApp, cFld, vFld, insOf, cTup, cLst, cLstM, vIntB, vInt, cNu, cTri, cUnd, cRg, kTupA, w_arms]
    by_cases h : 0 < x <;> simp [h, hw, show w < 1073741824 by omega]
theorem getitem_ok (n : Nat) (m w x : Int) (A : Hs) (h0 : 0 ≤ x) (h1 : x < m) (hw : 0 < w) (hw4 : w ≤ 4) (hm : m ≤ 12) : callF F (n + 4) 10 [tr m w, .int x] A = .ok (.tup (rgA (w * x + 1) (min (w * x + 1 + w) m))) A := by
  have h2 : w * x ≤ 4 * 12 := by
    have : w * x ≤ 4 * x := Int.mul_le_mul_of_nonneg_right hw4 h0
    omega
  have h3 : 0 ≤ w * x := Int.mul_nonneg (by omega) h0
  have e : (if m < w * x + 1 + w then m else w * x + 1 + w) = min (w * x + 1 + w) m := by
    rw [Int.min_def]; split <;> split <;> omega
  refine call_rt0 (f := 10) rfl rfl ((seq_nx (expr_ok (v := .non) (A' := A) ?_)).trans ((seq_nx (asg_ok (v := .int (w * x + 1)) (A' := A) ?_)).trans (ret_ok ?_)))
  ·     simp only [List.replicate, Nat.sub_self, Nat.reduceSub, List.append_nil, List.nil_append, List.cons_append, cAnd, cOr, cBin, cUn, cVar, cC, cNot, cIf, cChain, R.bind, RA.bind, dA, List.map_nil, List.getElem?_cons_zero, List.getElem?_cons_succ, List.set_cons_zero, List.set_cons_succ, vIsiC, vIsi, tyA, onB, onBS, pick, Ty.sub, vLe, vLt, vGt, vGe, vAdd, vSub, vMul, vFDiv, vMod, on2I, vNeg, guard', cCall, cMeth, cArgs, aNil, aCons, aApp, cFld, vFld, insOf, cTup, cLst, cLstM, vIntB, vInt, cNu, cTri, cUnd, cRg, kTupA, w_check_place, dA, List.map_nil, check_place_ok n m w x A h0 h1]
  · simp only [List.replicate, Nat.sub_self, Nat.reduceSub, List.append_nil, List.nil_append, List.cons_append, cAnd, cOr, cBin, cUn, cVar, cC, cNot, cIf, cChain, R.bind, RA.bind, dA, List.map_nil, List.getElem?_cons_zero, List.getElem?_cons_succ, List.set_cons_zero, List.set_cons_succ, vIsiC, vIsi, tyA, onB, onBS, pick, Ty.sub, vLe, vLt, vGt, vGe, vAdd, vSub, vMul, vFDiv, vMod, on2I, vNeg, guard', cCall, cMeth, cArgs, aNil, aCons, aApp, cFld, vFld, insOf, cTup, cLst, cLstM, vIntB, vInt, cNu, cTri, cUnd, cRg, kTupA, w_arms, show mulOk w x = true by simp [mulOk]; omega]
  · simp only [List.replicate, Nat.sub_self, Nat.reduceSub, List.append_nil, List.nil_append, List.cons_append, cAnd, cOr, cBin, cUn, cVar, cC, cNot, cIf, cChain, R.bind, RA.bind, dA, List.map_nil, List.getElem?_cons_zero, List.getElem?_cons_succ, List.set_cons_zero, List.set_cons_succ, vIsiC, vIsi, tyA, onB, onBS, pick, Ty.sub, vLe, vLt, vGt, vGe, vAdd, vSub, vMul, vFDiv, vMod, on2I, vNeg, guard', cCall, cMeth, cArgs, aNil, aCons, aApp, cFld, vFld, insOf, cTup, cLst, cLstM, vIntB, vInt, cNu, cTri, cUnd, cRg, kTupA, w_arms, w_many, vMin2, e]
    rw [show rgOk (w * x + 1) (min (w * x + 1 + w) m) = true by simp [rgOk]; omega]
theorem check_arms_ok (n : Nat) (w : Int) (A : Hs) (h1 : 1 ≤ w) (h4 : w ≤ 4) : callF F (n + 2) 3 [.int w] A = .ok .non A := by
  refine call_nx0 (f := 3) rfl rfl (if_f ?_)
  simp only [List.replicate, Nat.sub_self, Nat.reduceSub, List.append_nil, List.nil_append, List.cons_append, cAnd, cOr, cBin, cUn, cVar, cC, cNot, cIf, cChain, R.bind, RA.bind, dA, List.map_nil, List.getElem?_cons_zero, List.getElem?_cons_succ, List.set_cons_zero, List.set_cons_succ, vIsiC, vIsi, tyA, onB, onBS, pick, Ty.sub, vLe, vLt, vGt, vGe, vAdd, vSub, vMul, vFDiv, vMod, on2I, vNeg, guard', cCall, cMeth, cArgs, aNil, aCons, aApp, cFld, vFld, insOf, cTup, cLst, cLstM, vIntB, vInt, cNu, cTri, cUnd, cRg, kTupA, is_number_ok, inR_t h1 h4, Bool.not_true]
theorem init_ok (n : Nat) (m w : Int) (A : Hs) (h1 : 1 ≤ w) (h4 : w ≤ 4) (hm : 0 ≤ m) (hm2 : m ≤ 12) : callF F (n + 3) 5 [.ref A.length, .int m, .int w] (A ++ [.ins 5 []]) = .ok .non (A ++ [.ins 5 [.int w, .int m, .tup (rgA 0 m)]]) := by
  refine call_nxS (f := 5) (e := [.ref A.length, .int m, .int w]) rfl rfl ((seq_nx (expr_ok (v := .non) (A' := A ++ [.ins 5 []]) ?_)).trans ((seq_nx (if_f (A' := A ++ [.ins 5 []]) ?_)).trans ?_)) (by simp)
  · simp only [List.replicate, Nat.sub_self, Nat.reduceSub, List.append_nil, List.nil_append, List.cons_append, cAnd, cOr, cBin, cUn, cVar, cC, cNot, cIf, cChain, R.bind, RA.bind, dA, List.map_nil, List.getElem?_cons_zero, List.getElem?_cons_succ, List.set_cons_zero, List.set_cons_succ, vIsiC, vIsi, tyA, onB, onBS, pick, Ty.sub, vLe, vLt, vGt, vGe, vAdd, vSub, vMul, vFDiv, vMod, on2I, vNeg, guard', cCall, cMeth, cArgs, aNil, aCons, aApp, cFld, vFld, insOf, cTup, cLst, cLstM, vIntB, vInt, cNu, cTri, cUnd, cRg, kTupA, check_arms_ok n w _ h1 h4]
  · simp only [List.replicate, Nat.sub_self, Nat.reduceSub, List.append_nil, List.nil_append, List.cons_append, cAnd, cOr, cBin, cUn, cVar, cC, cNot, cIf, cChain, R.bind, RA.bind, dA, List.map_nil, List.getElem?_cons_zero, List.getElem?_cons_succ, List.set_cons_zero, List.set_cons_succ, vIsiC, vIsi, tyA, onB, onBS, pick, Ty.sub, vLe, vLt, vGt, vGe, vAdd, vSub, vMul, vFDiv, vMod, on2I, vNeg, guard', cCall, cMeth, cArgs, aNil, aCons, aApp, cFld, vFld, insOf, cTup, cLst, cLstM, vIntB, vInt, cNu, cTri, cUnd, cRg, kTupA, is_number_ok, inR_t hm hm2, Bool.not_true]
  · simp only [List.replicate, Nat.sub_self, Nat.reduceSub, List.append_nil, List.nil_append, List.cons_append, cAnd, cOr, cBin, cUn, cVar, cC, cNot, cIf, cChain, R.bind, RA.bind, dA, List.map_nil, List.getElem?_cons_zero, List.getElem?_cons_succ, List.set_cons_zero, List.set_cons_succ, vIsiC, vIsi, tyA, onB, onBS, pick, Ty.sub, vLe, vLt, vGt, vGe, vAdd, vSub, vMul, vFDiv, vMod, on2I, vNeg, guard', cCall, cMeth, cArgs, aNil, aCons, aApp, cFld, vFld, insOf, cTup, cLst, cLstM, vIntB, vInt, cNu, cTri, cUnd, cRg, kTupA, sNil, sSeq, sFldS, get_app, set_app, w_arms, w_many, w_places, setF, show rgOk 0 m = true by simp [rgOk]; omega]
theorem new_ok (n : Nat) (m w : Int) (A : Hs) (e : En) (a : CA) (h1 : 1 ≤ w) (h4 : w ≤ 4) (hm : 0 ≤ m) (hm2 : m ≤ 12) (hA : okA A = true) (ha : a e A = .ok [.int m, .int w] A) : cNew (callF F (n + 3)) 5 5 false [] a e A = .ok (tr m w) A := by
  simp only [List.replicate, Nat.sub_self, Nat.reduceSub, List.append_nil, List.nil_append, List.cons_append, cAnd, cOr, cBin, cUn, cVar, cC, cNot, cIf, cChain, R.bind, RA.bind, dA, List.map_nil, List.getElem?_cons_zero, List.getElem?_cons_succ, List.set_cons_zero, List.set_cons_succ, vIsiC, vIsi, tyA, onB, onBS, pick, Ty.sub, vLe, vLt, vGt, vGe, vAdd, vSub, vMul, vFDiv, vMod, on2I, vNeg, guard', cCall, cMeth, cArgs, aNil, aCons, aApp, cFld, vFld, insOf, cTup, cLst, cLstM, vIntB, vInt, cNu, cTri, cUnd, cRg, kTupA, cNew, ha, vNew, init_ok n m w A h1 h4 hm hm2]
  exact fin1_O hA rfl
end Ev.k09
namespace Ev.k09
open PySem PySem.Spec PyProof.Rows L2 Ev
abbrev dr (ns : List Int) (k : Int) : Cell := .lst [.scr (ns.map .int), .int k]
theorem take_ok (n : Nat) (ns : List Int) (h : ns.length ≤ 63) (k many : Int) (hm : 0 < many) (B : Hs) : ∃ z : Int, 0 ≤ z ∧ z < many ∧ callF F (n + 2) 20 [.ref 1, .int many] (.tab 0 :: dr ns k :: B) = .ok (.int z) (.tab 0 :: dr ns (k + 1) :: B) := by
  obtain ⟨z, hz⟩ := number_ok n ns h (k + 1) (.tab 0 :: dr ns (k + 1) :: B)
  refine ⟨z % many, Int.emod_nonneg _ (by omega), Int.emod_lt_of_pos _ hm, ?_⟩
  refine call_rtS (f := 20) rfl rfl ((seq_nx (e' := [.ref 1, .int many]) (A' := .tab 0 :: dr ns (k + 1) :: B) ?_).trans (ret_ok ?_)) rfl
  · rfl
  · refine (bin_ok (x := .int z) (A' := .tab 0 :: dr ns (k + 1) :: B) (y := .int many) (A2 := .tab 0 :: dr ns (k + 1) :: B) ?_ ?_).trans ?_
    · refine (un_ok (x := .int z) (A' := .tab 0 :: dr ns (k + 1) :: B) ?_).trans rfl
      exact (call_ok (xs := [.scr (ns.map .int), .int (k + 1)]) rfl).trans hz
    · rfl
    · simp only [List.replicate, Nat.sub_self, Nat.reduceSub, List.append_nil, List.nil_append, List.cons_append, cAnd, cOr, cBin, cUn, cVar, cC, cNot, cIf, cChain, R.bind, RA.bind, dA, List.map_nil, List.getElem?_cons_zero, List.getElem?_cons_succ, List.set_cons_zero, List.set_cons_succ, vIsiC, vIsi, tyA, onB, onBS, pick, Ty.sub, vLe, vLt, vGt, vGe, vAdd, vSub, vMul, vFDiv, vMod, on2I, vNeg, guard', cCall, cMeth, cArgs, aNil, aCons, aApp, cFld, vFld, insOf, cTup, cLst, cLstM, vIntB, vInt, cNu, cTri, cUnd, cRg, kTupA, decide_eq_true hm]
theorem pick_ok (n : Nat) (ns : List Int) (h : ns.length ≤ 63) (k : Int) (ts : List Int) (ht : ts ≠ []) (B : Hs) : ∃ x ∈ ts, callF F (n + 3) 34 [.ref 1, .lst (ts.map .int)] (.tab 0 :: dr ns k :: B) = .ok (.int x) (.tab 0 :: dr ns (k + 1) :: B) := by
  have hl : 0 < ts.length := List.length_pos_iff.mpr ht
  obtain ⟨z, z0, z1, hz⟩ := take_ok n ns h k ts.length (by omega) B
  obtain ⟨j, rfl⟩ : ∃ j : Nat, z = j := ⟨z.toNat, by omega⟩
  have hj : j < ts.length := by omega
  refine ⟨ts[j], List.getElem_mem hj, ?_⟩
  refine call_rtS (f := 34) rfl rfl (ret_ok ((bin_ok (x := .lst (ts.map .int)) (A' := .tab 0 :: dr ns k :: B) (y := .int j) (A2 := .tab 0 :: dr ns (k + 1) :: B) rfl ?_).trans ?_)) rfl
  · refine (call_ok (xs := [.ref 1, .int ts.length]) (A' := .tab 0 :: dr ns k :: B) ?_).trans hz
    exact acons_ok rfl (acons_ok ((un_ok (x := .lst (ts.map .int)) (A' := .tab 0 :: dr ns k :: B) rfl).trans (len_l AV.int ts _)) rfl)
  · exact ix_nat AV.int (fun _ z => by cases z) ts j _ (List.getElem?_eq_getElem hj) _ _ _
theorem keys_ok (n : Nat) (ns : List Int) (h : ns.length ≤ 63) (k most span : Int) (hm : 0 ≤ most) (hm2 : most ≤ 1000) (hs : 0 < span) : ∃ (ks : List Int) (k' : Int), (ks.length : Int) ≤ most ∧ (∀ x ∈ ks, -(span / 2) ≤ x ∧ x < span - span / 2) ∧ callF F (n + 3) 25 [.ref 1, .int most, .int span] [.tab 0, dr ns k] = .ok (.lst (ks.map .int)) [.tab 0, dr ns k'] := by
  obtain ⟨c, c0, c1, hc⟩ := take_ok n ns h k (most + 1) (by omega) []
  have hlc : ∃ (acc : List AV) (A' : Hs), cLCk kLstM (iRg (cC (.int 0)) (cCall (callF F (n + 2)) 20 [] (aCons (cVar 0) (aCons (cBin vAdd (cVar 1) (cC (.int 1))) aNil)))) (gN 3) (cC (.bl true)) (cBin vSub (cCall (callF F (n + 2)) 20 [] (aCons (cVar 0) (aCons (cVar 2) aNil))) (cUn vIntB (cBin vFDiv (cVar 2) (cC (.int 2))))) [3] [.ref 1, .int most, .int span, .und] [.tab 0, dr ns k] = kLstM acc.reverse A' ∧
      ∃ (ks : List Int) (k' : Int), acc.reverse = ks.map AV.int ∧ A' = [.tab 0, dr ns k'] ∧ ks.length + ([] : List AV).length = (rgI 0 c).length ∧ ∀ x ∈ ks, -(span / 2) ≤ x ∧ x < span - span / 2 := by
    refine lck_inv (.rng 0 (c - 0).toNat) ((rgI 0 c).map .int) (fun rest acc B => ∃ (ks : List Int) (k' : Int), acc.reverse = ks.map AV.int ∧ B = [.tab 0, dr ns k'] ∧ ks.length + rest.length = (rgI 0 c).length ∧ ∀ x ∈ ks, -(span / 2) ≤ x ∧ x < span - span / 2) (irg_ok (A1 := [.tab 0, dr ns k]) (A2 := [.tab 0, dr ns (k + 1)]) rfl ?_ (by omega) (by omega) (by omega) (by omega)) (fun A j => at_rngI A j) (by rw [List.length_map, rgI_len]; omega) ⟨[], k + 1, rfl, rfl, by simp, by simp⟩ ?_
    · exact (call_ok (xs := [.ref 1, .int (most + 1)]) rfl).trans hc
    rintro x r acc B ⟨ks, k', h1, rfl, h3, h4⟩
    obtain ⟨z, z0, z1, hz⟩ := take_ok n ns h k' span hs []
    refine ⟨_, rfl, .int (z - span / 2), [.tab 0, dr ns (k' + 1)], ?_, ks ++ [z - span / 2], k' + 1, by rw [List.reverse_cons, h1]; simp, rfl, by rw [List.length_append, ← h3]; simp; omega, fun y hy => ?_⟩
    · refine (bin_ok (x := .int z) (A' := [.tab 0, dr ns (k' + 1)]) (y := .int (span / 2)) (A2 := [.tab 0, dr ns (k' + 1)]) ?_ ?_).trans rfl
      · exact (call_ok (xs := [.ref 1, .int span]) rfl).trans hz
      · simp only [List.replicate, Nat.sub_self, Nat.reduceSub, List.append_nil, List.nil_append, List.cons_append, cAnd, cOr, cBin, cUn, cVar, cC, cNot, cIf, cChain, R.bind, RA.bind, dA, List.map_nil, List.getElem?_cons_zero, List.getElem?_cons_succ, List.set_cons_zero, List.set_cons_succ, vIsiC, vIsi, tyA, onB, onBS, pick, Ty.sub, vLe, vLt, vGt, vGe, vAdd, vSub, vMul, vFDiv, vMod, on2I, vNeg, guard', cCall, cMeth, cArgs, aNil, aCons, aApp, cFld, vFld, insOf, cTup, cLst, cLstM, vIntB, vInt, cNu, cTri, cUnd, cRg, kTupA, wipeE, show (decide ((0 : Int) < 2) && decide ((2 : Int) < 1073741824)) = true by decide]
    · rcases List.mem_append.mp hy with hy | hy
      · exact h4 y hy
      · rw [List.mem_singleton] at hy
        subst hy
        omega
  obtain ⟨acc, A', h1, ks, k', h2, rfl, h3, h4⟩ := hlc
  refine ⟨ks, k', by rw [rgI_len] at h3; simp at h3; omega, h4, ?_⟩
  refine call_rtLB (f := 25) (A' := [.tab 0, dr ns k']) (B := [.lst (ks.map .int)]) (i := 2) rfl rfl rfl rfl (Nat.le_refl 2) rfl (allI ks) (ret_ok ?_)
  refine h1.trans ?_
  rw [h2]
  rfl
end Ev.k09
namespace Ev.k09
open PySem PySem.Spec PyProof.Rows L2 Ev
theorem is_key_ok (n : Nat) (x : Int) (h1 : -1000000000 ≤ x) (h2 : x ≤ 1000000000) (A : Hs) : callF F (n + 2) 2 [.int x] A = .ok (.bl true) A := by
  refine call_rt0 (f := 2) rfl rfl (ret_ok ?_)
  refine (call_ok (xs := [.int x, .int (-1000000000), .int 1000000000]) (A' := A) rfl).trans ?_
  rw [List.append_nil, is_number_ok, inR_t h1 h2]
theorem check_row_ok (n : Nat) {x : AV} {ks : List Int} (h : Sq x ks) (hr : Row ks) (A : Hs) : callF F (n + 3) 4 [x] A = .ok .non A := by
  obtain ⟨s, hs1, hs2⟩ := h.enu (c := cVar 0) (e := [x, .und, .und]) (A := A) (h.var rfl)
  have hl := hr.l
  have he : (enuP ks).length = ks.length := by simp [enuP]
  obtain ⟨e', A', h1, l, z1, z2, hl', hm, rfl, rfl⟩ := for_last (g := gTup' 2 (gsCons (gN 1) (gsCons (gN 2) gsNil))) (b := sIf (cNot (cCall (callF F (n + 2)) 2 [] (aCons (cVar 2) aNil))) sBad sNil) (N := 100000) s ((enuP ks).map avP) (fun rest e B => ∃ (l : List (Nat × Int)) (z1 z2 : AV), rest = l.map avP ∧ (∀ p ∈ l, p.2 ∈ ks) ∧ e = [x, z1, z2] ∧ B = A) hs1 hs2 (by rw [List.length_map]; omega)
    ⟨enuP ks, .und, .und, rfl, fun p hp => by
      obtain ⟨j, hj⟩ := List.mem_iff_getElem?.mp hp
      rw [enuP_get] at hj
      obtain ⟨c, q1, q2⟩ := Option.map_eq_some_iff.mp hj
      subst q2
      exact List.mem_of_getElem? q1, rfl, rfl⟩ (by
      rintro y r e B ⟨l, z1, z2, h1, h2, rfl, rfl⟩
      cases l with
      | nil => cases h1
      | cons p l =>
        cases h1
        have hk := hr.k p.2 (h2 p List.mem_cons_self)
        refine ⟨_, [x, .int p.1, .int p.2], B, rfl, (if_f (A' := B) (not_ok (t := true) ?_)).trans rfl, l, _, _, rfl, fun q hq => h2 q (List.mem_cons_of_mem _ hq), rfl, rfl⟩
        exact (call_ok (xs := [.int p.2]) rfl).trans (is_key_ok n p.2 hk.1 hk.2 B))
  refine call_nx0 (f := 4) (e := [x, z1, z2]) rfl rfl ((seq_nx (if_f (A' := A') ((or_f (isi_c h _ _ A' rfl)).trans ?_))).trans h1)
  refine (bin_ok (x := .int ks.length) (A' := A') (y := .int 12) (A2 := A') ((un_ok (h.var rfl)).trans (h.len A')) rfl).trans ?_
  simp only [List.replicate, Nat.sub_self, Nat.reduceSub, List.append_nil, List.nil_append, List.cons_append, cAnd, cOr, cBin, cUn, cVar, cC, cNot, cIf, cChain, R.bind, RA.bind, dA, List.map_nil, List.getElem?_cons_zero, List.getElem?_cons_succ, List.set_cons_zero, List.set_cons_succ, vIsiC, vIsi, tyA, onB, onBS, pick, Ty.sub, vLe, vLt, vGt, vGe, vAdd, vSub, vMul, vFDiv, vMod, on2I, vNeg, guard', cCall, cMeth, cArgs, aNil, aCons, aApp, cFld, vFld, insOf, cTup, cLst, cLstM, vIntB, vInt, cNu, cTri, cUnd, cRg, kTupA, decide_eq_false (show ¬ (12 : Int) < ks.length by omega)]
end Ev.k09
namespace Ev.k09
open PySem PySem.Spec PyProof.Rows L2 Ev
theorem minK_ok {t i j : Nat} {cx cb : CE} {e : En} {A : Hs} {s x b : AV} {r : List AV} {k ns : List Int} (h1 : cx e A = .ok s A) (h2 : A[t]? = some (.tab i)) (h3 : seqOf A s = some (x :: r)) (h4 : intsOf (x :: r) = some ns) (h5 : kOf (cb (e.set j x) A) = some k)
    (h6 : goK (fun y => cb (e.set j y) A) r x k = some b) : cMinK t i j cx cb e A = .ok b A := by
  unfold cMinK
  rw [h1]
  dsimp only [R.bind]
  rw [h2]
  dsimp only
  rw [Nat.beq_refl]
  dsimp only
  rw [h3]
  dsimp only
  rw [h4]
  dsimp only
  rw [h5]
  dsimp only
  rw [h6]
theorem ltK_two (a b p q : Int) : ltK [a, p] [b, q] = (decide (a < b) || (decide (a = b) && decide (p < q))) := by
  show (if decide (a = b) = true then (if decide (p = q) = true then false else decide (p < q)) else decide (a < b)) = _
  by_cases h : a = b
  · subst h
    by_cases h2 : p = q
    · subst h2
      simp
    · simp [h2]
  · simp [h]
theorem intsN (l : List Nat) : intsOf (l.map nI) = some (l.map Int.ofNat) := by
  have := intsOf_map (l.map Int.ofNat)
  rw [List.map_map] at this
  exact this
theorem goK_ok {ks : List Int} {f : AV → R} (key : ∀ p, p < ks.length → kOf (f (nI p)) = some [ks.getD p 0, (p : Int)]) : ∀ (q : List Nat) (c : Nat), c < ks.length → (∀ y ∈ q, c < y ∧ y < ks.length) → q.Pairwise (· < ·) → goK f (q.map nI) (nI c) [ks.getD c 0, (c : Int)] = some (nI (flN ks q c)) := by
  intro q
  induction q with
  | nil => intro c _ _ _; rfl
  | cons y q ih =>
    intro c hc hq hs
    obtain ⟨h1, h2⟩ := hq y (by simp)
    rw [List.map_cons]
    unfold goK
    rw [key y h2]
    dsimp only
    rw [ltK_two]
    have e : (decide (ks.getD y 0 < ks.getD c 0) || (decide (ks.getD y 0 = ks.getD c 0) && decide ((y : Int) < (c : Int)))) = decide (ks.getD y 0 < ks.getD c 0) := by
      rw [decide_eq_false (show ¬ (y : Int) < (c : Int) by omega)]
      simp
    rw [e]
    unfold flN
    have hp := List.pairwise_cons.mp hs
    by_cases hlt : ks.getD y 0 < ks.getD c 0
    · rw [decide_eq_true hlt, if_pos hlt]
      exact ih y h2 (fun z hz => ⟨hp.1 z hz, (hq z (List.mem_cons_of_mem _ hz)).2⟩) hp.2
    · rw [decide_eq_false hlt, if_neg hlt]
      exact ih c hc (fun z hz => hq z (List.mem_cons_of_mem _ hz)) hp.2
theorem first_least_ok (n : Nat) {x : AV} {ks : List Int} (h : Sq x ks) {l : List Nat} (hne : l ≠ []) (hb : ∀ p ∈ l, p < ks.length) (asc : l.Pairwise (· < ·)) (A : Hs) (hA : A[0]? = some (.tab 0)) : callF F (n + 1) 43 [x, .tup (l.map nI)] A = .ok (nI (least ks l)) A := by
  obtain ⟨b, r, rfl⟩ := List.exists_cons_of_ne_nil hne
  have key : ∀ p, p < ks.length → kOf (cTup (aCons (cBin vIx (cVar 0) (cVar 2)) (aCons (cVar 2) aNil)) ([x, .tup ((b :: r).map nI), .und].set 2 (nI p)) A) = some [ks.getD p 0, (p : Int)] := fun p hp => by
    have e1 : cBin vIx (cVar 0) (cVar 2) [x, .tup ((b :: r).map nI), nI p] A = .ok (.int (ks.getD p 0)) A := by
      refine (bin_ok (x := x) (A' := A) (y := nI p) (A2 := A) (h.var rfl) rfl).trans ?_
      have := h.ix (call := callF F n) (mt := fun _ => none) p _ (getD_some hp) A
      rcases h with rfl | rfl <;> exact this
    have := ctup_ok (acons_ok e1 (acons_ok (show cVar 2 [x, .tup ((b :: r).map nI), nI p] A = .ok (nI p) A from rfl) anil_ok)) (by rfl) (by simp)
    show kOf (cTup _ [x, .tup ((b :: r).map nI), nI p] A) = _
    rw [this]
    rfl
  have hp := List.pairwise_cons.mp asc
  refine call_rt0 (f := 43) rfl rfl (ret_ok (minK_ok (s := .tup ((b :: r).map nI)) rfl hA rfl (intsN (b :: r)) (key b (hb b (by simp))) ?_))
  exact goK_ok key r b (hb b (by simp)) (fun y hy => ⟨hp.1 y hy, hb y (List.mem_cons_of_mem _ hy)⟩) hp.2
theorem tr_at (n : Nat) (m w p : Nat) (A : Hs) (hp : p < m) (h1 : 1 ≤ w) (h4 : w ≤ 4) (hm : m ≤ 12) : callF F (n + 4) 10 [tr m w, nI p] A = .ok (.tup ((chN m w p).map nI)) A := by
  refine (getitem_ok n m w p A (by omega) (by omega) (by omega) (by omega) (by omega)).trans ?_
  congr 2
  unfold chN rgA
  rw [List.map_map]
  have e1 : (min ((w : Int) * p + 1 + w) m - ((w : Int) * p + 1)).toNat = min (w * p + 1 + w) m - (w * p + 1) := by
    have : ((w * p : Nat) : Int) = (w : Int) * p := by push_cast; rfl
    omega
  rw [e1]
  refine List.map_congr_left fun i _ => ?_
  show AV.int _ = AV.int _
  congr 1
  push_cast
  omega
theorem up_body (n : Nat) {x : AV} {ks : List Int} (h : Sq x ks) {w : Nat} (h1 : 1 ≤ w) (h4 : w ≤ 4) (hm : ks.length ≤ 12) (A : Hs) {z2 z6 : AV} {key : Int} {ps : List Nat} {p c : Nat} (hp : p < ks.length) (hp0 : 0 < p) (hl : ps.getLast? = some p) (hlen : ps.length ≤ 100) :
    (sSeq (sAsg (cMeth (callF F (n + 4)) (tmd W dx_parent) (cVar 1) (aCons (cBin (vIxO (callF F (n + 4)) (tm W mx___getitem__)) (cVar 4) (cUn vNeg (cC (.int 1)))) aNil)) (gN 6))
      (sSeq (sAug 5 vAddI (cC (.int 1)))
      (sSeq (sIf (cBin vLeT (cBin (vIxO (callF F (n + 4)) (tm W mx___getitem__)) (cVar 0) (cVar 6)) (cVar 3)) sBrk sNil)
      (sExpr (cML vAppend (cVar 4) (aCons (cVar 6) aNil)))))) [x, tr ks.length w, z2, .int key, .ref A.length, nI c, z6] (A ++ [.lst (ps.map nI)]) = (if ks.getD (par w p) 0 ≤ key then RS.bk [x, tr ks.length w, z2, .int key, .ref A.length, nI (c + 1), nI (par w p)] (A ++ [.lst (ps.map nI)])
      else RS.nx [x, tr ks.length w, z2, .int key, .ref A.length, nI (c + 1), nI (par w p)] (A ++ [.lst ((ps ++ [par w p]).map nI)])) := by
  have hq := par_lt (w := w) hp0
  have el : cBin (vIxO (callF F (n + 4)) (tm W mx___getitem__)) (cVar 4) (cUn vNeg (cC (.int 1))) [x, tr ks.length w, z2, .int key, .ref A.length, nI c, z6] (A ++ [.lst (ps.map nI)]) = .ok (nI p) (A ++ [.lst (ps.map nI)]) :=
    (bin_ok (x := .ref A.length) (A' := A ++ [.lst (ps.map nI)]) (y := .int (-1)) (A2 := A ++ [.lst (ps.map nI)]) rfl rfl).trans (ixl_at get_app (mapN_last hl) (by intro z; cases z))
  have ep : cMeth (callF F (n + 4)) (tmd W dx_parent) (cVar 1) (aCons (cBin (vIxO (callF F (n + 4)) (tm W mx___getitem__)) (cVar 4) (cUn vNeg (cC (.int 1)))) aNil) [x, tr ks.length w, z2, .int key, .ref A.length, nI c, z6] (A ++ [.lst (ps.map nI)]) = .ok (nI (par w p)) (A ++ [.lst (ps.map nI)]) := by
    have := parent_ok n ks.length w p (A ++ [.lst (ps.map nI)]) (by omega) (by omega) (by omega) (by omega)
    rw [if_pos (by omega), par_int hp0] at this
    unfold cMeth
    rw [show cVar 1 [x, tr ks.length w, z2, .int key, .ref A.length, nI c, z6] (A ++ [.lst (ps.map nI)]) = .ok (tr ks.length w) (A ++ [.lst (ps.map nI)]) from rfl]
    dsimp only [insOf]
    rw [w_parent]
    dsimp only
    rw [acons_ok el anil_ok]
    exact this
  refine (seq_nx (asg_ok ep)).trans ?_
  refine (seq_nx (e' := [x, tr ks.length w, z2, .int key, .ref A.length, nI (c + 1), nI (par w p)]) (A' := A ++ [.lst (ps.map nI)]) rfl).trans ?_
  have ec : cBin vLeT (cBin (vIxO (callF F (n + 4)) (tm W mx___getitem__)) (cVar 0) (cVar 6)) (cVar 3) [x, tr ks.length w, z2, .int key, .ref A.length, nI (c + 1), nI (par w p)] (A ++ [.lst (ps.map nI)]) = .ok (.bl (decide (ks.getD (par w p) 0 ≤ key))) (A ++ [.lst (ps.map nI)]) :=
    (bin_ok (x := .int (ks.getD (par w p) 0)) (A' := A ++ [.lst (ps.map nI)]) (y := .int key) (A2 := A ++ [.lst (ps.map nI)]) (at_ok h (by omega) (h.var rfl) rfl) rfl).trans rfl
  by_cases hle : ks.getD (par w p) 0 ≤ key
  · rw [if_pos hle]
    rw [decide_eq_true hle] at ec
    unfold sSeq
    rw [if_t ec]
    rfl
  · rw [if_neg hle]
    rw [decide_eq_false hle] at ec
    refine (seq_nx ((if_f ec).trans rfl)).trans (expr_ok (v := .non) ?_)
    refine ml_at get_app rfl (ys := [nI (par w p)]) rfl ?_
    rw [app_at get_app (by rw [List.length_map]; omega), set_app, List.map_append]
    rfl
theorem way_up_ok (n : Nat) {x : AV} {ks : List Int} (h : Sq x ks) {w : Nat} (h1 : 1 ≤ w) (h4 : w ≤ 4) (hm : ks.length ≤ 12) (A : Hs) (hA : okA A = true) {p : Nat} (hp : p < ks.length) :
    callF F (n + 5) 44 [x, tr ks.length w, nI p] A = .ok (.tup [.lst ((wayUp w ks (ks.getD p 0) 20 p).1.map nI), nI (wayUp w ks (ks.getD p 0) 20 p).2]) A := by
  refine call_rtM2 (f := 44) rfl rfl hA (allN _) rfl ?_
  refine (seq_nx (par3_ok (u := .int (ks.getD p 0)) (v := .ref A.length) (w := .int 0) (A' := A ++ [.lst [nI p]]) ?_)).trans ?_
  · exact acons_ok (at_ok h hp (h.var rfl) rfl) (acons_ok rfl (acons_ok rfl rfl))
  obtain ⟨e', A', hw, c6, rfl, rfl⟩ := while_bk (c := cBin vGt (cBin (vIxO (callF F (n + 4)) (tm W mx___getitem__)) (cVar 4) (cUn vNeg (cC (.int 1)))) (cC (.int 0))) (b := (sSeq (sAsg (cMeth (callF F (n + 4)) (tmd W dx_parent) (cVar 1) (aCons (cBin (vIxO (callF F (n + 4)) (tm W mx___getitem__)) (cVar 4) (cUn vNeg (cC (.int 1)))) aNil)) (gN 6))
      (sSeq (sAug 5 vAddI (cC (.int 1)))
      (sSeq (sIf (cBin vLeT (cBin (vIxO (callF F (n + 4)) (tm W mx___getitem__)) (cVar 0) (cVar 6)) (cVar 3)) sBrk sNil)
      (sExpr (cML vAppend (cVar 4) (aCons (cVar 6) aNil)))))))
    (fun k e B => ∃ (ps : List Nat) (q c : Nat) (z6 : AV), q < ks.length ∧ q ≤ k ∧ ps.length + k ≤ 20 ∧ e = [x, tr ks.length w, nI p, .int (ks.getD p 0), .ref A.length, nI c, z6] ∧ B = A ++ [.lst ((ps ++ [q]).map nI)] ∧ (wayUp w ks (ks.getD p 0) 20 p).1 = ps ++ (wayUp w ks (ks.getD p 0) k q).1 ∧ (wayUp w ks (ks.getD p 0) 20 p).2 = c + (wayUp w ks (ks.getD p 0) k q).2)
    (fun e B => ∃ z6 : AV, e = [x, tr ks.length w, nI p, .int (ks.getD p 0), .ref A.length, nI (wayUp w ks (ks.getD p 0) 20 p).2, z6] ∧ B = A ++ [.lst ((wayUp w ks (ks.getD p 0) 20 p).1.map nI)]) (by
      rintro k e B ⟨ps, q, c, z6, hq, hqk, hlen, rfl, rfl, hw1, hw2⟩
      have ec : cBin vGt (cBin (vIxO (callF F (n + 4)) (tm W mx___getitem__)) (cVar 4) (cUn vNeg (cC (.int 1)))) (cC (.int 0)) [x, tr ks.length w, nI p, .int (ks.getD p 0), .ref A.length, nI c, z6] (A ++ [.lst ((ps ++ [q]).map nI)]) = .ok (.bl (decide ((0 : Int) < (q : Int)))) (A ++ [.lst ((ps ++ [q]).map nI)]) := by
        refine (bin_ok (x := nI q) (A' := A ++ [.lst ((ps ++ [q]).map nI)]) (y := .int 0) (A2 := A ++ [.lst ((ps ++ [q]).map nI)]) ?_ rfl).trans rfl
        exact (bin_ok (x := .ref A.length) (A' := A ++ [.lst ((ps ++ [q]).map nI)]) (y := .int (-1)) (A2 := A ++ [.lst ((ps ++ [q]).map nI)]) rfl rfl).trans (ixl_at get_app (mapN_last (by simp)) (by intro z; cases z))
      by_cases h0 : q = 0
      · subst h0
        rw [decide_eq_false (by omega)] at ec
        have e0 : wayUp w ks (ks.getD p 0) k 0 = ([0], 0) := by
          cases k with
          | zero => rfl
          | succ k => unfold wayUp; rw [if_pos rfl]
        rw [e0] at hw1 hw2
        exact .inl ⟨ec, z6, by rw [hw2]; rfl, by rw [hw1]⟩
      · rw [decide_eq_true (by omega)] at ec
        obtain ⟨k, rfl⟩ : ∃ k', k = k' + 1 := ⟨k - 1, by omega⟩
        have hb := up_body n h h1 h4 hm A (z2 := nI p) (z6 := z6) (key := ks.getD p 0) (ps := ps ++ [q]) (c := c) hq (by omega) (by simp) (by simp; omega)
        refine .inr ⟨ec, ?_⟩
        rw [wayUp_succ w ks _ k q, if_neg h0] at hw1 hw2
        by_cases hle : ks.getD (par w q) 0 ≤ ks.getD p 0
        · rw [if_pos hle] at hb hw1 hw2
          exact .inr ⟨_, _, hb, nI (par w q), by rw [hw2], by rw [hw1]⟩
        · rw [if_neg hle] at hb hw1 hw2
          have hlt := par_lt (w := w) (show 0 < q by omega)
          exact .inl ⟨k, _, _, hb, by omega, ps ++ [q], par w q, c + 1, nI (par w q), by omega, by omega, by simp; omega, rfl, rfl, by rw [hw1]; simp, by rw [hw2]; simp only; omega⟩) 100000 20 [x, tr ks.length w, nI p, .int (ks.getD p 0), .ref A.length, .int 0, .und] (A ++ [.lst [nI p]]) (by omega) ⟨[], p, 0, .und, hp, by omega, by simp, rfl, rfl, by simp, by simp⟩
  refine (seq_nx hw).trans (ret_ok ?_)
  show cArgs _ _ _ _ = _
  unfold cArgs
  rw [acons_ok (show cVar 4 [x, tr ks.length w, nI p, .int (ks.getD p 0), .ref A.length, nI (wayUp w ks (ks.getD p 0) 20 p).2, c6] (A ++ [.lst ((wayUp w ks (ks.getD p 0) 20 p).1.map nI)]) = .ok (.ref A.length) _ from rfl) (acons_ok (show cVar 5 [x, tr ks.length w, nI p, .int (ks.getD p 0), .ref A.length, nI (wayUp w ks (ks.getD p 0) 20 p).2, c6] (A ++ [.lst ((wayUp w ks (ks.getD p 0) 20 p).1.map nI)]) = .ok (nI (wayUp w ks (ks.getD p 0) 20 p).2) _ from rfl) anil_ok)]
  rfl
theorem tree_ix (n : Nat) {m w p : Nat} (hp : p < m) (h1 : 1 ≤ w) (h4 : w ≤ 4) (hm : m ≤ 12) {a b : CE} {e : En} {B : Hs} (ha : a e B = .ok (tr m w) B) (hb : b e B = .ok (nI p) B) : cBin (vIxO (callF F (n + 4)) (tm W mx___getitem__)) a b e B = .ok (.tup ((chN m w p).map nI)) B := by
  refine (bin_ok ha hb).trans ?_
  unfold vIxO ownC
  dsimp only [insOf]
  rw [w_getitem]
  dsimp only
  rw [tr_at n m w p B hp h1 h4 hm]
theorem dn_body (n : Nat) {x : AV} {ks : List Int} (h : Sq x ks) {w : Nat} (h1 : 1 ≤ w) (h4 : w ≤ 4) (hm : ks.length ≤ 12) (A : Hs) (hA : A[0]? = some (.tab 0)) {z2 z6 z7 : AV} {key : Int} {ps : List Nat} {p c : Nat} (hp : p < ks.length) (hc : chN ks.length w p ≠ []) (hl : ps.getLast? = some p) (hlen : ps.length ≤ 100) :
    (sSeq (sAsg (cBin (vIxO (callF F (n + 4)) (tm W mx___getitem__)) (cVar 1) (cBin (vIxO (callF F (n + 4)) (tm W mx___getitem__)) (cVar 4) (cUn vNeg (cC (.int 1))))) (gN 6))
      (sSeq (sAug 5 vAddI (cUn (vLenO (callF F (n + 4)) (tm W mx___len__)) (cVar 6)))
      (sSeq (sAsg (cCall (callF F (n + 4)) 43 [] (aCons (cVar 0) (aCons (cVar 6) aNil))) (gN 7))
      (sSeq (sIf (cBin vLeT (cVar 3) (cBin (vIxO (callF F (n + 4)) (tm W mx___getitem__)) (cVar 0) (cVar 7))) sBrk sNil)
      (sExpr (cML vAppend (cVar 4) (aCons (cVar 7) aNil))))))) [x, tr ks.length w, z2, .int key, .ref A.length, nI c, z6, z7] (A ++ [.lst (ps.map nI)]) = (if key ≤ ks.getD (least ks (chN ks.length w p)) 0 then RS.bk [x, tr ks.length w, z2, .int key, .ref A.length, nI (c + (chN ks.length w p).length), .tup ((chN ks.length w p).map nI), nI (least ks (chN ks.length w p))] (A ++ [.lst (ps.map nI)])
      else RS.nx [x, tr ks.length w, z2, .int key, .ref A.length, nI (c + (chN ks.length w p).length), .tup ((chN ks.length w p).map nI), nI (least ks (chN ks.length w p))] (A ++ [.lst ((ps ++ [least ks (chN ks.length w p)]).map nI)])) := by
  have hl0 := least_mem ks hc
  have hl1 := (chN_mem hl0).2.1
  have hA' : (A ++ [Cell.lst (ps.map nI)])[0]? = some (.tab 0) := by
    rw [List.getElem?_append_left (List.getElem?_eq_some_iff.mp hA).1]
    exact hA
  refine (seq_nx (asg_ok (i := 6) (tree_ix n hp h1 h4 hm rfl ?_))).trans ?_
  · exact (bin_ok (x := .ref A.length) (A' := A ++ [.lst (ps.map nI)]) (y := .int (-1)) (A2 := A ++ [.lst (ps.map nI)]) rfl rfl).trans (ixl_at get_app (mapN_last hl) (by intro z; cases z))
  refine (seq_nx (e' := [x, tr ks.length w, z2, .int key, .ref A.length, nI (c + (chN ks.length w p).length), .tup ((chN ks.length w p).map nI), z7]) (A' := A ++ [.lst (ps.map nI)]) ?_).trans ?_
  · unfold sAug
    rw [show cVar 5 ([x, tr ks.length w, z2, .int key, .ref A.length, nI c, z6, z7].set 6 (.tup ((chN ks.length w p).map nI))) (A ++ [.lst (ps.map nI)]) = .ok (nI c) (A ++ [.lst (ps.map nI)]) from rfl]
    dsimp only
    rw [show cUn (vLenO (callF F (n + 4)) (tm W mx___len__)) (cVar 6) ([x, tr ks.length w, z2, .int key, .ref A.length, nI c, z6, z7].set 6 (.tup ((chN ks.length w p).map nI))) (A ++ [.lst (ps.map nI)]) = .ok (.int (chN ks.length w p).length) (A ++ [.lst (ps.map nI)]) from (un_ok rfl).trans (len_t nI _ _)]
    rfl
  refine (seq_nx (asg_ok (i := 7) (v := nI (least ks (chN ks.length w p))) (A' := A ++ [.lst (ps.map nI)]) ?_)).trans ?_
  · refine (call_ok (xs := [x, .tup ((chN ks.length w p).map nI)]) (A' := A ++ [Cell.lst (ps.map nI)]) ?_).trans (first_least_ok (n + 3) h hc (fun q hq => (chN_mem hq).2.1) (chN_asc _ _ _) (A ++ [Cell.lst (ps.map nI)]) hA')
    exact acons_ok (h.var rfl) (acons_ok rfl rfl)
  have ec : cBin vLeT (cVar 3) (cBin (vIxO (callF F (n + 4)) (tm W mx___getitem__)) (cVar 0) (cVar 7)) [x, tr ks.length w, z2, .int key, .ref A.length, nI (c + (chN ks.length w p).length), .tup ((chN ks.length w p).map nI), nI (least ks (chN ks.length w p))] (A ++ [.lst (ps.map nI)]) = .ok (.bl (decide (key ≤ ks.getD (least ks (chN ks.length w p)) 0))) (A ++ [.lst (ps.map nI)]) :=
    (bin_ok (x := .int key) (A' := A ++ [.lst (ps.map nI)]) (y := .int (ks.getD (least ks (chN ks.length w p)) 0)) (A2 := A ++ [.lst (ps.map nI)]) rfl (at_ok h hl1 (h.var rfl) rfl)).trans rfl
  by_cases hle : key ≤ ks.getD (least ks (chN ks.length w p)) 0
  · rw [if_pos hle]
    rw [decide_eq_true hle] at ec
    show sSeq _ _ [x, tr ks.length w, z2, .int key, .ref A.length, nI (c + (chN ks.length w p).length), .tup ((chN ks.length w p).map nI), nI (least ks (chN ks.length w p))] _ = _
    unfold sSeq
    rw [if_t ec]
    rfl
  · rw [if_neg hle]
    rw [decide_eq_false hle] at ec
    refine (seq_nx ((if_f ec).trans rfl)).trans (expr_ok (v := .non) ?_)
    refine ml_at get_app rfl (ys := [nI (least ks (chN ks.length w p))]) rfl ?_
    rw [app_at get_app (by rw [List.length_map]; omega), set_app, List.map_append]
    rfl
theorem way_down_ok (n : Nat) {x : AV} {ks : List Int} (h : Sq x ks) {w : Nat} (h1 : 1 ≤ w) (h4 : w ≤ 4) (hm : ks.length ≤ 12) (A : Hs) (hA : okA A = true) (hT : A[0]? = some (.tab 0)) {p : Nat} (hp : p < ks.length) :
    callF F (n + 5) 45 [x, tr ks.length w, nI p] A = .ok (.tup [.lst ((wayDn ks.length w ks (ks.getD p 0) 20 p).1.map nI), nI (wayDn ks.length w ks (ks.getD p 0) 20 p).2]) A := by
  refine call_rtM2 (f := 45) rfl rfl hA (allN _) rfl ?_
  refine (seq_nx (par3_ok (u := .int (ks.getD p 0)) (v := .ref A.length) (w := .int 0) (A' := A ++ [.lst [nI p]]) ?_)).trans ?_
  · exact acons_ok (at_ok h hp (h.var rfl) rfl) (acons_ok rfl (acons_ok rfl rfl))
  obtain ⟨e', A', hw, c6, c7, rfl, rfl⟩ := while_bk (c := cBin (vNeO (callF F (n + 4)) (tm W mx___eq__)) (cBin (vIxO (callF F (n + 4)) (tm W mx___getitem__)) (cVar 1) (cBin (vIxO (callF F (n + 4)) (tm W mx___getitem__)) (cVar 4) (cUn vNeg (cC (.int 1))))) (cTup aNil)) (b := (sSeq (sAsg (cBin (vIxO (callF F (n + 4)) (tm W mx___getitem__)) (cVar 1) (cBin (vIxO (callF F (n + 4)) (tm W mx___getitem__)) (cVar 4) (cUn vNeg (cC (.int 1))))) (gN 6))
      (sSeq (sAug 5 vAddI (cUn (vLenO (callF F (n + 4)) (tm W mx___len__)) (cVar 6)))
      (sSeq (sAsg (cCall (callF F (n + 4)) 43 [] (aCons (cVar 0) (aCons (cVar 6) aNil))) (gN 7))
      (sSeq (sIf (cBin vLeT (cVar 3) (cBin (vIxO (callF F (n + 4)) (tm W mx___getitem__)) (cVar 0) (cVar 7))) sBrk sNil)
      (sExpr (cML vAppend (cVar 4) (aCons (cVar 7) aNil))))))))
    (fun k e B => ∃ (ps : List Nat) (q c : Nat) (z6 z7 : AV), q < ks.length ∧ ks.length ≤ q + k ∧ ps.length + k ≤ 20 ∧ e = [x, tr ks.length w, nI p, .int (ks.getD p 0), .ref A.length, nI c, z6, z7] ∧ B = A ++ [.lst ((ps ++ [q]).map nI)] ∧ (wayDn ks.length w ks (ks.getD p 0) 20 p).1 = ps ++ (wayDn ks.length w ks (ks.getD p 0) k q).1 ∧ (wayDn ks.length w ks (ks.getD p 0) 20 p).2 = c + (wayDn ks.length w ks (ks.getD p 0) k q).2)
    (fun e B => ∃ z6 z7 : AV, e = [x, tr ks.length w, nI p, .int (ks.getD p 0), .ref A.length, nI (wayDn ks.length w ks (ks.getD p 0) 20 p).2, z6, z7] ∧ B = A ++ [.lst ((wayDn ks.length w ks (ks.getD p 0) 20 p).1.map nI)]) (by
      rintro k e B ⟨ps, q, c, z6, z7, hq, hqk, hlen, rfl, rfl, hw1, hw2⟩
      have ec : cBin (vNeO (callF F (n + 4)) (tm W mx___eq__)) (cBin (vIxO (callF F (n + 4)) (tm W mx___getitem__)) (cVar 1) (cBin (vIxO (callF F (n + 4)) (tm W mx___getitem__)) (cVar 4) (cUn vNeg (cC (.int 1))))) (cTup aNil) [x, tr ks.length w, nI p, .int (ks.getD p 0), .ref A.length, nI c, z6, z7] (A ++ [.lst ((ps ++ [q]).map nI)]) = .ok (.bl (!decide (chN ks.length w q = []))) (A ++ [.lst ((ps ++ [q]).map nI)]) := by
        refine (bin_ok (tree_ix n hq h1 h4 hm rfl ?_) (show cTup aNil _ (A ++ [.lst ((ps ++ [q]).map nI)]) = .ok (.tup []) _ from rfl)).trans (neO_enc (eT eNt) (by decide) _ _ (chN ks.length w q) [] _)
        exact (bin_ok (x := .ref A.length) (A' := A ++ [.lst ((ps ++ [q]).map nI)]) (y := .int (-1)) (A2 := A ++ [.lst ((ps ++ [q]).map nI)]) rfl rfl).trans (ixl_at get_app (mapN_last (by simp)) (by intro z; cases z))
      obtain ⟨k, rfl⟩ : ∃ k', k = k' + 1 := ⟨k - 1, by omega⟩
      rw [wayDn_succ ks.length w ks _ k q] at hw1 hw2
      by_cases h0 : chN ks.length w q = []
      · rw [decide_eq_true h0] at ec
        rw [if_pos h0] at hw1 hw2
        exact .inl ⟨ec, z6, z7, by rw [hw2]; rfl, by rw [hw1]⟩
      · rw [decide_eq_false h0] at ec
        rw [if_neg h0] at hw1 hw2
        have hb := dn_body n h h1 h4 hm A hT (z2 := nI p) (z6 := z6) (z7 := z7) (key := ks.getD p 0) (ps := ps ++ [q]) (c := c) hq h0 (by simp) (by simp; omega)
        refine .inr ⟨ec, ?_⟩
        by_cases hle : ks.getD p 0 ≤ ks.getD (least ks (chN ks.length w q)) 0
        · rw [if_pos hle] at hb hw1 hw2
          exact .inr ⟨_, _, hb, _, _, by rw [hw2], by rw [hw1]⟩
        · rw [if_neg hle] at hb hw1 hw2
          have hm0 := least_mem ks h0
          have hgt := chN_gt h1 hm0
          have hlt := (chN_mem hm0).2.1
          exact .inl ⟨k, _, _, hb, by omega, ps ++ [q], least ks (chN ks.length w q), c + (chN ks.length w q).length, _, _, hlt, by omega, by simp; omega, rfl, rfl, by rw [hw1]; simp, by rw [hw2]; simp only; omega⟩) 100000 20 [x, tr ks.length w, nI p, .int (ks.getD p 0), .ref A.length, .int 0, .und, .und] (A ++ [.lst [nI p]]) (by omega) ⟨[], p, 0, .und, .und, hp, by omega, by simp, rfl, rfl, by simp, by simp⟩
  refine (seq_nx hw).trans (ret_ok ?_)
  show cArgs _ _ _ _ = _
  unfold cArgs
  rw [acons_ok (show cVar 4 [x, tr ks.length w, nI p, .int (ks.getD p 0), .ref A.length, nI (wayDn ks.length w ks (ks.getD p 0) 20 p).2, c6, c7] (A ++ [.lst ((wayDn ks.length w ks (ks.getD p 0) 20 p).1.map nI)]) = .ok (.ref A.length) _ from rfl) (acons_ok (show cVar 5 [x, tr ks.length w, nI p, .int (ks.getD p 0), .ref A.length, nI (wayDn ks.length w ks (ks.getD p 0) 20 p).2, c6, c7] (A ++ [.lst ((wayDn ks.length w ks (ks.getD p 0) 20 p).1.map nI)]) = .ok (nI (wayDn ks.length w ks (ks.getD p 0) 20 p).2) _ from rfl) anil_ok)]
  rfl
end Ev.k09
namespace Ev.k09
open PySem PySem.Spec PyProof.Rows L2 Ev
theorem moved_ok (n : Nat) {x : AV} {ks : List Int} (h : Sq x ks) {way : List Nat} (hne : way ≠ []) (hb : ∀ p ∈ way, p < ks.length) (hl : way.length ≤ 100) (A : Hs) (hA : okA A = true) : callF F (n + 1) 42 [x, .lst (way.map nI)] A = .ok (.lst ((mvN ks way).map .int)) A := by
  have hp0 : way.headD 0 < ks.length := hb _ (by
    cases way with
    | nil => exact absurd rfl hne
    | cons a r => simp)
  have hw0 : (way.map nI)[0]? = some (nI (way.headD 0)) := by
    cases way with
    | nil => exact absurd rfl hne
    | cons a r => rfl
  refine call_rtL (f := 42) (i := A.length) (B := [.lst ((mvN ks way).map .int)]) rfl rfl hA (Nat.le_refl _) get_app (allI _) ?_
  refine (seq_nx (par_ok (v := .ref A.length) (w := .int (ks.getD (way.headD 0) 0)) (A' := A ++ [.lst (ks.map .int)]) ?_)).trans ?_
  · refine acons_ok ((un_ok (h.var rfl)).trans (vListUM_sq h _ _ _ A)) (acons_ok (A' := A ++ [.lst (ks.map .int)]) (at_ok h hp0 (h.var rfl) ?_) rfl)
    exact (bin_ok (x := .lst (way.map nI)) (A' := A ++ [.lst (ks.map .int)]) (y := .int 0) (A2 := A ++ [.lst (ks.map .int)]) rfl rfl).trans (ix_nat nI (fun _ z => by cases z) way 0 _ (by rw [List.getElem?_map] at hw0; cases hq : way[0]? with | none => rw [hq] at hw0; cases hw0 | some a => rw [hq] at hw0; cases hw0; rfl) _ _ _)
  refine for_seq (.zipL (.lst (way.map nI)) (.lst ((way.drop 1).map nI))) ((way.zip (way.drop 1)).map avQ) (fun rest e B => ∃ (pre r : List Nat) (f : List Int) (z4 z5 : AV), way = pre ++ r ∧ r ≠ [] ∧ rest = (r.zip (r.drop 1)).map avQ ∧ f.length = ks.length ∧ mvGo ks (ks.getD (way.headD 0) 0) f r = mvN ks way ∧ e = [x, .lst (way.map nI), .ref A.length, .int (ks.getD (way.headD 0) 0), z4, z5] ∧ B = A ++ [.lst (f.map .int)]) ?_ (fun B k => at_zipN _ _ B k) (by simp; omega) ⟨[], way, ks, _, _, rfl, hne, rfl, rfl, rfl, rfl, rfl⟩ ?_ ?_
  · have e1 : cTri vSl (cVar 1) (cNu (cC (.int 1))) cUnd ([x, .lst (way.map nI), .ref A.length, .int (ks.getD (way.headD 0) 0), .und, .und] : En) (A ++ [.lst (ks.map .int)]) = .ok (.lst ((way.drop 1).map nI)) (A ++ [.lst (ks.map .int)]) := by
      show vSl (.lst (way.map nI)) (.int 1) .und (A ++ [.lst (ks.map .int)]) = _
      unfold vSl
      dsimp only [optI]
      rw [sql_lst]
      dsimp only
      rw [cut_tail, ← List.map_drop, allN]
      rfl
    show iZip' (cVar 1) (cTri vSl (cVar 1) (cNu (cC (.int 1))) cUnd) ([x, .lst (way.map nI), .ref A.length, .int (ks.getD (way.headD 0) 0), .und, .und] : En) (A ++ [.lst (ks.map .int)]) = _
    unfold iZip'
    rw [show cVar 1 ([x, .lst (way.map nI), .ref A.length, .int (ks.getD (way.headD 0) 0), .und, .und] : En) (A ++ [.lst (ks.map .int)]) = .ok (.lst (way.map nI)) (A ++ [.lst (ks.map .int)]) from rfl]
    dsimp only
    rw [e1]
    rfl
  · rintro y rest e B ⟨pre, r, f, z4, z5, hw, hr, hrest, hf, hm, rfl, rfl⟩
    cases r with
    | nil => exact absurd rfl hr
    | cons q r =>
    cases r with
    | nil => cases hrest
    | cons q2 r =>
    cases hrest
    have hq : q < ks.length := hb q (by rw [hw]; simp)
    have hq2 : q2 < ks.length := hb q2 (by rw [hw]; simp)
    refine ⟨[x, .lst (way.map nI), .ref A.length, .int (ks.getD (way.headD 0) 0), nI q, nI q2], _, _, rfl, ?_, pre ++ [q], q2 :: r, f.set q (ks.getD q2 0), nI q, nI q2, by rw [hw]; simp, by simp, rfl, by simp [hf], hm, rfl, rfl⟩
    unfold sAsg
    rw [at_ok h hq2 (h.var rfl) rfl]
    dsimp only
    rw [gsub_at (xs := f.map .int) (p := q) (i := A.length) get_app (by rw [List.length_map, hf]; exact hq) rfl rfl, set_app]
    dsimp only
    rw [List.map_set]
  · rintro e B ⟨pre, r, f, z4, z5, hw, hr, hrest, hf, hm, rfl, rfl⟩
    cases r with
    | nil => exact absurd rfl hr
    | cons q r =>
    cases r with
    | cons q2 r => cases hrest
    | nil =>
    have hq : q < ks.length := hb q (by rw [hw]; simp)
    have hql : way.getLast? = some q := by rw [hw]; simp
    refine (seq_nx (e' := [x, .lst (way.map nI), .ref A.length, .int (ks.getD (way.headD 0) 0), z4, z5]) (A' := A ++ [.lst ((f.set q (ks.getD (way.headD 0) 0)).map .int)]) ?_).trans ?_
    · unfold sAsg
      rw [show cVar 3 ([x, .lst (way.map nI), .ref A.length, .int (ks.getD (way.headD 0) 0), z4, z5] : En) (A ++ [.lst (f.map .int)]) = .ok (.int (ks.getD (way.headD 0) 0)) (A ++ [.lst (f.map .int)]) from rfl]
      dsimp only
      rw [gsub_at (xs := f.map .int) (p := q) (i := A.length) get_app (by rw [List.length_map, hf]; exact hq) rfl ?_, set_app]
      · dsimp only
        rw [List.map_set]
      · refine (bin_ok (x := .lst (way.map nI)) (A' := A ++ [.lst (f.map .int)]) (y := .int (-1)) (A2 := A ++ [.lst (f.map .int)]) rfl rfl).trans ?_
        have := last_ok (call := callF F n) (mt := tm W mx___getitem__) (way.map Int.ofNat) (q : Int) (by rw [List.getLast?_map, hql]; rfl) (A ++ [.lst (f.map .int)])
        rw [List.map_map] at this
        exact this
    · rw [← hm]
      rfl
/-- a Sift: its slots stand as looks, row, way -/
abbrev sft (row : List Int) (way : List Nat) (looks : Nat) : AV := .obj 6 [nI looks, avT row, .tup (way.map nI)]
theorem w_row : tb W.cl fx_row 6 = some 1 := rfl
theorem w_way : tb W.cl fx_way 6 = some 2 := rfl
theorem w_looks : tb W.cl fx_looks 6 = some 0 := rfl
theorem tuple_sq {x : AV} {l : List Int} (h : Sq x l) (A : Hs) : vTuple x A = .ok (avT l) A := by
  unfold vTuple
  rw [seq_sq h]
  dsimp only
  rw [allI]
  rfl
theorem tuple_nl (l : List Nat) (A : Hs) : vTuple (.lst (l.map nI)) A = .ok (.tup (l.map nI)) A := by
  show guard' (allF (l.map nI)) (R.ok (.tup (l.map nI)) A) = _
  rw [allN]
  rfl
theorem sift_init_ok (n : Nat) {x y : AV} {row : List Int} {way : List Nat} (h : Sq x row) (hy : y = .lst (way.map nI) ∨ y = .tup (way.map nI)) (c : Nat) (A : Hs) : callF F (n + 1) 40 [.ref A.length, x, y, nI c] (A ++ [.ins 6 []]) = .ok .non (A ++ [.ins 6 [nI c, avT row, .tup (way.map nI)]]) := by
  have hv : vTuple y (A ++ [.ins 6 [.und, avT row]]) = .ok (.tup (way.map nI)) (A ++ [.ins 6 [.und, avT row]]) := by
    rcases hy with rfl | rfl
    · exact tuple_nl _ _
    · show guard' (allF (way.map nI)) (R.ok (.tup (way.map nI)) _) = _
      rw [allN]
      rfl
  have hyv : ∀ B, cVar 2 ([.ref A.length, x, y, nI c] : En) B = .ok y B := fun B => by
    rcases hy with rfl | rfl <;> rfl
  have f1 : sFldS (tb W.cl fx_row) (cVar 0) (cUn vTuple (cVar 1)) ([.ref A.length, x, y, nI c] : En) (A ++ [.ins 6 []]) = .nx [.ref A.length, x, y, nI c] (A ++ [.ins 6 [.und, avT row]]) := by
    refine (fldS_ok ((un_ok (h.var rfl)).trans (tuple_sq h _)) rfl get_app w_row).trans ?_
    rw [set_app]
    rfl
  have f2 : sFldS (tb W.cl fx_way) (cVar 0) (cUn vTuple (cVar 2)) ([.ref A.length, x, y, nI c] : En) (A ++ [.ins 6 [.und, avT row]]) = .nx [.ref A.length, x, y, nI c] (A ++ [.ins 6 [.und, avT row, .tup (way.map nI)]]) := by
    refine (fldS_ok ((un_ok (hyv _)).trans hv) rfl get_app w_way).trans ?_
    rw [set_app]
    rfl
  refine call_nxS (f := 40) (e := [.ref A.length, x, y, nI c]) rfl rfl ((seq_nx f1).trans ((seq_nx f2).trans ?_)) (by simp)
  refine (fldS_ok (y := nI c) rfl rfl get_app w_looks).trans ?_
  rw [set_app]
  rfl
theorem sift_new_ok (n : Nat) {x y : AV} {row : List Int} {way : List Nat} (h : Sq x row) (hy : y = .lst (way.map nI) ∨ y = .tup (way.map nI)) (c : Nat) (A : Hs) (hA : okA A = true) {a : CA} {e : En} {B : Hs} (ha : a e B = .ok [x, y, nI c] A) : cNew (callF F (n + 1)) 6 40 false [] a e B = .ok (sft row way c) A := by
  unfold cNew cArgs
  rw [ha]
  dsimp only [RA.bind]
  unfold vNew
  rw [List.append_nil, sift_init_ok n h hy c A]
  exact fin1_O hA rfl
theorem wayUp_lt {w : Nat} {ks : List Int} {key : Int} : ∀ (k p : Nat), p < ks.length → (∀ q ∈ (wayUp w ks key k p).1, q < ks.length) ∧ (wayUp w ks key k p).1.length ≤ k + 1
  | 0, p, hp => by simp [wayUp, hp]
  | k + 1, p, hp => by
    rw [wayUp_succ]
    split
    · simp [hp]
    · split
      · simp [hp]
      · have hq := par_lt (w := w) (show 0 < p by omega)
        have := wayUp_lt (w := w) (ks := ks) (key := key) k (par w p) (by omega)
        refine ⟨fun q hq => ?_, Nat.succ_le_succ this.2⟩
        rcases List.mem_cons.mp hq with rfl | hq
        · exact hp
        · exact this.1 q hq
theorem wayDn_lt {w : Nat} {ks : List Int} {key : Int} : ∀ (k p : Nat), p < ks.length → (∀ q ∈ (wayDn ks.length w ks key k p).1, q < ks.length) ∧ (wayDn ks.length w ks key k p).1.length ≤ k + 1
  | 0, p, hp => by simp [wayDn, hp]
  | k + 1, p, hp => by
    rw [wayDn_succ]
    split
    · simp [hp]
    · rename_i h0
      split
      · simp [hp]
      · have hq := (chN_mem (least_mem ks h0)).2.1
        have := wayDn_lt (w := w) (ks := ks) (key := key) k _ hq
        refine ⟨fun q hq => ?_, Nat.succ_le_succ this.2⟩
        rcases List.mem_cons.mp hq with rfl | hq
        · exact hp
        · exact this.1 q hq
def upS (w : Nat) (ks : List Int) (p : Nat) : AV := sft (mvN ks (wayUp w ks (ks.getD p 0) 20 p).1) (wayUp w ks (ks.getD p 0) 20 p).1 (wayUp w ks (ks.getD p 0) 20 p).2
def dnS (w : Nat) (ks : List Int) (p : Nat) : AV := sft (mvN ks (wayDn ks.length w ks (ks.getD p 0) 20 p).1) (wayDn ks.length w ks (ks.getD p 0) 20 p).1 (wayDn ks.length w ks (ks.getD p 0) 20 p).2
theorem lifted_ok (n : Nat) {x : AV} {ks : List Int} (h : Sq x ks) {w : Nat} (h1 : 1 ≤ w) (h4 : w ≤ 4) (hm : ks.length ≤ 12) (A : Hs) (hA : okA A = true) {p : Nat} (hp : p < ks.length) : callF F (n + 6) 46 [x, tr ks.length w, nI p] A = .ok (upS w ks p) A := by
  obtain ⟨hb, hl⟩ := wayUp_lt (w := w) (key := ks.getD p 0) 20 p hp
  have hne : (wayUp w ks (ks.getD p 0) 20 p).1 ≠ [] := by
    obtain ⟨r, hr⟩ := wayUp_head w ks (ks.getD p 0) 20 p
    rw [hr]
    simp
  refine call_rt0 (f := 46) rfl rfl ((seq_nx (e' := [x, tr ks.length w, nI p, .lst ((wayUp w ks (ks.getD p 0) 20 p).1.map nI), nI (wayUp w ks (ks.getD p 0) 20 p).2]) (A' := A) ?_).trans (ret_ok ?_))
  · have e1 : cCall (callF F (n + 5)) 44 [] (aCons (cVar 0) (aCons (cVar 1) (aCons (cVar 2) aNil))) ([x, tr ks.length w, nI p, .und, .und] : En) A = .ok (.tup [.lst ((wayUp w ks (ks.getD p 0) 20 p).1.map nI), nI (wayUp w ks (ks.getD p 0) 20 p).2]) A := by
      refine (call_ok (xs := [x, tr ks.length w, nI p]) (A' := A) ?_).trans (way_up_ok n h h1 h4 hm A hA hp)
      exact acons_ok (h.var rfl) (acons_ok rfl (acons_ok rfl rfl))
    show sAsg _ _ ([x, tr ks.length w, nI p, .und, .und] : En) A = _
    unfold sAsg
    rw [e1]
    rfl
  · refine sift_new_ok (n + 4) (.inr rfl) (.inl rfl) _ A hA (x := .lst ((mvN ks (wayUp w ks (ks.getD p 0) 20 p).1).map .int)) ?_
    refine acons_ok (A' := A) ?_ (acons_ok rfl (acons_ok rfl rfl))
    refine (call_ok (xs := [x, .lst ((wayUp w ks (ks.getD p 0) 20 p).1.map nI)]) (A' := A) ?_).trans (moved_ok (n + 4) h hne hb (by omega) A hA)
    exact acons_ok (h.var rfl) (acons_ok rfl rfl)
theorem sunk_ok (n : Nat) {x : AV} {ks : List Int} (h : Sq x ks) {w : Nat} (h1 : 1 ≤ w) (h4 : w ≤ 4) (hm : ks.length ≤ 12) (A : Hs) (hA : okA A = true) (hT : A[0]? = some (.tab 0)) {p : Nat} (hp : p < ks.length) : callF F (n + 6) 47 [x, tr ks.length w, nI p] A = .ok (dnS w ks p) A := by
  obtain ⟨hb, hl⟩ := wayDn_lt (w := w) (key := ks.getD p 0) 20 p hp
  have hne : (wayDn ks.length w ks (ks.getD p 0) 20 p).1 ≠ [] := by
    obtain ⟨r, hr⟩ := wayDn_head ks.length w ks (ks.getD p 0) 20 p
    rw [hr]
    simp
  refine call_rt0 (f := 47) rfl rfl ((seq_nx (e' := [x, tr ks.length w, nI p, .lst ((wayDn ks.length w ks (ks.getD p 0) 20 p).1.map nI), nI (wayDn ks.length w ks (ks.getD p 0) 20 p).2]) (A' := A) ?_).trans (ret_ok ?_))
  · have e1 : cCall (callF F (n + 5)) 45 [] (aCons (cVar 0) (aCons (cVar 1) (aCons (cVar 2) aNil))) ([x, tr ks.length w, nI p, .und, .und] : En) A = .ok (.tup [.lst ((wayDn ks.length w ks (ks.getD p 0) 20 p).1.map nI), nI (wayDn ks.length w ks (ks.getD p 0) 20 p).2]) A := by
      refine (call_ok (xs := [x, tr ks.length w, nI p]) (A' := A) ?_).trans (way_down_ok n h h1 h4 hm A hA hT hp)
      exact acons_ok (h.var rfl) (acons_ok rfl (acons_ok rfl rfl))
    show sAsg _ _ ([x, tr ks.length w, nI p, .und, .und] : En) A = _
    unfold sAsg
    rw [e1]
    rfl
  · refine sift_new_ok (n + 4) (.inr rfl) (.inl rfl) _ A hA (x := .lst ((mvN ks (wayDn ks.length w ks (ks.getD p 0) 20 p).1).map .int)) ?_
    refine acons_ok (A' := A) ?_ (acons_ok rfl (acons_ok rfl rfl))
    refine (call_ok (xs := [x, .lst ((wayDn ks.length w ks (ks.getD p 0) 20 p).1.map nI)]) (A' := A) ?_).trans (moved_ok (n + 4) h hne hb (by omega) A hA)
    exact acons_ok (h.var rfl) (acons_ok rfl rfl)
end Ev.k09
namespace Ev.k09
open PySem PySem.Spec PyProof.Rows L2 Ev
theorem tnew (n : Nat) {x : AV} {ks : List Int} (h : Sq x ks) (hl : ks.length ≤ 12) {w : Nat} (h1 : 1 ≤ w) (h4 : w ≤ 4) (A : Hs) (hA : okA A = true) {i j : Nat} {e : En} (hi : e[i]? = some x) (hj : e[j]? = some (nI w)) : cNew (callF F (n + 3)) 5 5 false [] (aApp (aCons (cUn (vLenO (callF F (n + 3)) (tm W mx___len__)) (cVar i)) aNil) (aCons (cVar j) aNil)) e A = .ok (tr ks.length w) A := by
  refine new_ok n ks.length w A _ _ (by omega) (by omega) (by omega) (by omega) hA ?_
  unfold aApp
  rw [show aCons (cUn (vLenO (callF F (n + 3)) (tm W mx___len__)) (cVar i)) aNil e A = .ok [.int ks.length] A from acons_ok ((un_ok (h.var hi)).trans (h.len A)) anil_ok]
  dsimp only
  rw [show aCons (cVar j) aNil e A = .ok [nI w] A from acons_ok (var_ok hj (by intro z; cases z)) anil_ok]
  rfl
theorem sift_up_ok (n : Nat) {x : AV} {ks : List Int} (h : Sq x ks) (hr : Row ks) {w : Nat} (h1 : 1 ≤ w) (h4 : w ≤ 4) (A : Hs) (hA : okA A = true) {p : Nat} (hp : p < ks.length) : callF F (n + 7) 48 [x, nI p, nI w] A = .ok (upS w ks p) A := by
  have hl := hr.l
  refine call_rt0 (f := 48) rfl rfl ((seq_nx (expr_ok (v := .non) (A' := A) ?_)).trans ((seq_nx (expr_ok (v := .non) (A' := A) ?_)).trans ((seq_nx (asg_ok (v := tr ks.length w) (A' := A) (tnew (n + 3) h hl h1 h4 A hA rfl rfl))).trans ((seq_nx (expr_ok (v := .non) (A' := A) ?_)).trans (ret_ok ?_)))))
  · exact (call_ok (xs := [nI w]) rfl).trans (check_arms_ok (n + 4) w A (by omega) (by omega))
  · refine (call_ok (xs := [x]) (A' := A) ?_).trans (check_row_ok (n + 3) h hr A)
    exact acons_ok (h.var rfl) rfl
  · have := check_place_ok (n + 3) ks.length w p A (by omega) (by omega)
    simp only [List.replicate, Nat.sub_self, Nat.reduceSub, List.append_nil, List.nil_append, List.cons_append, cAnd, cOr, cBin, cUn, cVar, cC, cNot, cIf, cChain, R.bind, RA.bind, dA, List.map_nil, List.getElem?_cons_zero, List.getElem?_cons_succ, List.set_cons_zero, List.set_cons_succ, vIsiC, vIsi, tyA, onB, onBS, pick, Ty.sub, vLe, vLt, vGt, vGe, vAdd, vSub, vMul, vFDiv, vMod, on2I, vNeg, guard', cCall, cMeth, cArgs, aNil, aCons, aApp, cFld, vFld, insOf, cTup, cLst, cLstM, vIntB, vInt, cNu, cTri, cUnd, cRg, kTupA, w_check_place, this]
  · refine (call_ok (xs := [x, tr ks.length w, nI p]) (A' := A) ?_).trans (lifted_ok n h h1 h4 hl A hA hp)
    exact acons_ok (h.var rfl) (acons_ok rfl (acons_ok rfl rfl))
theorem sift_down_ok (n : Nat) {x : AV} {ks : List Int} (h : Sq x ks) (hr : Row ks) {w : Nat} (h1 : 1 ≤ w) (h4 : w ≤ 4) (A : Hs) (hA : okA A = true) (hT : A[0]? = some (.tab 0)) {p : Nat} (hp : p < ks.length) : callF F (n + 7) 49 [x, nI p, nI w] A = .ok (dnS w ks p) A := by
  have hl := hr.l
  refine call_rt0 (f := 49) rfl rfl ((seq_nx (expr_ok (v := .non) (A' := A) ?_)).trans ((seq_nx (expr_ok (v := .non) (A' := A) ?_)).trans ((seq_nx (asg_ok (v := tr ks.length w) (A' := A) (tnew (n + 3) h hl h1 h4 A hA rfl rfl))).trans ((seq_nx (expr_ok (v := .non) (A' := A) ?_)).trans (ret_ok ?_)))))
  · exact (call_ok (xs := [nI w]) rfl).trans (check_arms_ok (n + 4) w A (by omega) (by omega))
  · refine (call_ok (xs := [x]) (A' := A) ?_).trans (check_row_ok (n + 3) h hr A)
    exact acons_ok (h.var rfl) rfl
  · have := check_place_ok (n + 3) ks.length w p A (by omega) (by omega)
    simp only [List.replicate, Nat.sub_self, Nat.reduceSub, List.append_nil, List.nil_append, List.cons_append, cAnd, cOr, cBin, cUn, cVar, cC, cNot, cIf, cChain, R.bind, RA.bind, dA, List.map_nil, List.getElem?_cons_zero, List.getElem?_cons_succ, List.set_cons_zero, List.set_cons_succ, vIsiC, vIsi, tyA, onB, onBS, pick, Ty.sub, vLe, vLt, vGt, vGe, vAdd, vSub, vMul, vFDiv, vMod, on2I, vNeg, guard', cCall, cMeth, cArgs, aNil, aCons, aApp, cFld, vFld, insOf, cTup, cLst, cLstM, vIntB, vInt, cNu, cTri, cUnd, cRg, kTupA, w_check_place, this]
  · refine (call_ok (xs := [x, tr ks.length w, nI p]) (A' := A) ?_).trans (sunk_ok n h h1 h4 hl A hA hT hp)
    exact acons_ok (h.var rfl) (acons_ok rfl (acons_ok rfl rfl))
end Ev.k09
namespace Ev.k09
open PySem PySem.Spec PyProof.Rows L2 Ev
theorem iown_tr {c : CE} {e : En} {A A1 : Hs} {m : Nat} {w : Int} (h : c e A = .ok (tr m w) A1) : iOwn (tmi W itx) c e A = .ok (.tup ((List.range m).map nI)) A1 := by
  unfold iOwn
  rw [h]
  show RI.ok (.tup (rgA 0 m)) A1 = _
  rw [rgA_nat]
end Ev.k09
namespace Ev.k09
open PySem PySem.Spec PyProof.Rows L2 Ev
def bfsN (m w : Nat) : Nat → List Nat → List Nat → List Nat
  | 0, _, fd => fd
  | f + 1, fr, fd => if fr = [] then fd else bfsN m w f (fr.flatMap (chN m w)) (fd ++ fr)
theorem bfs_tab : tri.map (fun q => bfsN q.1 q.2.1 13 [q.2.2] []) = tri.map (fun q => subN q.1 q.2.1 q.2.2) := by decide +kernel
theorem bfs_ok {m w p : Nat} (h1 : 1 ≤ w) (h4 : w ≤ 4) (hm : m ≤ 12) (hp : p < m) : bfsN m w 13 [p] [] = subN m w p :=
  eq_at (f := fun q : Nat × Nat × Nat => bfsN q.1 q.2.1 13 [q.2.2] []) (x := (m, w, p)) bfs_tab (List.mem_flatMap.mpr ⟨m, List.mem_range.mpr (by omega), List.mem_flatMap.mpr ⟨w, mem4 h1 h4, List.mem_map.mpr ⟨p, List.mem_range.mpr hp, rfl⟩⟩⟩)
theorem ne_nl {call : CallT} {mt : Nat → Option Nat} (l : List Nat) (A : Hs) : vNeO call mt (.lst (l.map nI)) (.lst []) A = .ok (.bl (!decide (l = []))) A := neO_enc (eL eNt) (by decide) call mt l [] A
theorem bfs_ge {m w : Nat} : ∀ (f : Nat) (fr fd : List Nat), fd.length ≤ (bfsN m w f fr fd).length
  | 0, _, _ => Nat.le_refl _
  | f + 1, fr, fd => by
    unfold bfsN
    split
    · exact Nat.le_refl _
    · exact Nat.le_trans (by rw [List.length_append]; omega) (bfs_ge f _ _)
theorem bfs_len {m w f : Nat} {fr fd : List Nat} : fd.length + fr.length ≤ (bfsN m w (f + 1) fr fd).length := by
  unfold bfsN
  split
  · rename_i h; rw [h]; exact Nat.le_refl _
  · exact Nat.le_trans (by rw [List.length_append]; exact Nat.le_refl _) (bfs_ge f _ _)
theorem subtree_ok (n : Nat) {m w p : Nat} (h1 : 1 ≤ w) (h4 : w ≤ 4) (hm : m ≤ 12) (hp : p < m) (A : Hs) (hA : okA A = true) : callF F (n + 5) 16 [tr m w, nI p] A = .ok (.tup ((subN m w p).map nI)) A := by
  refine call_wp (f := 16) rfl rfl ?_
  unfold c_Tree_subtree
  dsimp only [List.set, List.append, List.nil_append, List.cons_append, List.replicate, Nat.reduceSub, List.length_cons, List.length_nil, Nat.reduceAdd]
  have hck := check_place_ok (n + 1) m w p A (by omega) (by omega)
  refine wp_seq (wp_expr (v := .non) (A1 := A) (w_methO rfl w_check_place (by (repeat infer_instance)) hck) ?_)
  refine wp_seq ?_
  refine wp_p2 (A1 := A ++ [Cell.lst []]) (u := AV.ref A.length) (v := AV.lst [nI p]) ?_ rfl ?_
  · (repeat infer_instance)
  refine wp_seq ?_
  refine wp_while (fun f e A' => ∃ (fr fd : List Nat) (z4 z5 : AV), e = [tr m w, nI p, .ref A.length, .lst (fr.map nI), z4, z5] ∧ A' = A ++ [Cell.lst (fd.map nI)] ∧ (∀ q ∈ fr, q < m ∧ m ≤ q + f) ∧ bfsN m w f fr fd = subN m w p) ?_ 100000 13 _ _ (by decide) ⟨[p], [], _, _, rfl, rfl, fun q hq => by rw [List.mem_singleton] at hq; omega, bfs_ok h1 h4 hm hp⟩
  rintro f e A' ⟨fr, fd, z4, z5, rfl, rfl, hb, he⟩
  refine ⟨!decide (fr = []), w_bin (x := AV.lst (fr.map nI)) (y := AV.lst []) (A1 := A ++ [Cell.lst (fd.map nI)]) (A2 := A ++ [Cell.lst (fd.map nI)]) (by (repeat infer_instance)) (by (repeat infer_instance)) (ne_nl fr _), ?_⟩
  by_cases h0 : fr = []
  · subst h0
    refine sel_fP rfl ?_
    have e1 : fd = subN m w p := by
      rw [← he]
      cases f <;> rfl
    refine wp_ret (v := .tup (fd.map nI)) (A1 := A ++ [.lst (fd.map nI)]) ?_ ?_
    · refine w_un (x := .ref A.length) (A1 := A ++ [.lst (fd.map nI)]) (by (repeat infer_instance)) ?_
      show (match sqlOf (A ++ [Cell.lst (fd.map nI)]) (.ref A.length) with | some xs => guard' (allF xs) (R.ok (.tup xs) (A ++ [Cell.lst (fd.map nI)])) | none => R.bad) = _
      rw [show sqlOf (A ++ [Cell.lst (fd.map nI)]) (.ref A.length) = some (fd.map nI) by unfold sqlOf lstOf; dsimp only; rw [get_app]]
      dsimp only
      rw [allN]
      rfl
    · rw [e1]
      exact fin_app hA rfl
  · refine sel_tP (by simp [h0]) ?_
    obtain ⟨f, rfl⟩ : ∃ g, f = g + 1 := by
      cases f with
      | zero =>
        obtain ⟨q, l, rfl⟩ := List.exists_cons_of_ne_nil h0
        have := hb q List.mem_cons_self
        omega
      | succ g => exact ⟨g, rfl⟩
    have hlen := bfs_len (m := m) (w := w) (f := f) (fr := fr) (fd := fd)
    rw [he] at hlen
    have hs := subN_len m w p
    refine wp_seq ?_
    refine wp_expr (v := .non) (A1 := A ++ [.lst ((fd ++ fr).map nI)]) ?_ ?_
    · refine w_ml (x := .ref A.length) (A1 := A ++ [.lst (fd.map nI)]) (A2 := A ++ [.lst (fd.map nI)]) (xs := [.lst (fr.map nI)]) (by (repeat infer_instance)) isL_app (by (repeat infer_instance)) ?_
      rw [List.map_append]
      exact ext_ok (by simp only [List.length_map]; omega)
    refine wp_asg (v := .lst ((fr.flatMap (chN m w)).map nI)) (A1 := A ++ [.lst ((fd ++ fr).map nI)]) ?_ rfl ?_
    · refine lc2_map (A1 := A ++ [.lst ((fd ++ fr).map nI)]) nI fr (fun _ => nI) (chN m w) (fun _ _ => true) (fun _ => nI) (.lst (.lst (fr.map nI))) (iown_lst (by (repeat infer_instance))) (fun k => rfl) (by omega) (fun q hq => ⟨_, .tup ((chN m w q).map nI), rfl, ?_, fun k => rfl, ?_, fun o ho => ⟨_, rfl, rfl, fun _ => rfl⟩⟩) (by omega) ?_
      · exact iown_tup (tree_ix n (hb q hq).1 h1 h4 hm rfl rfl)
      · have := chN_len m w q
        omega
      · rw [kLst_ok]
        · congr 2
          rw [List.map_flatMap]
          congr 1
          funext q
          rw [List.filter_eq_self.mpr fun _ _ => rfl]
        · refine allF_iff.mpr fun x hx => ?_
          obtain ⟨q, _, hx⟩ := List.mem_flatMap.mp hx
          obtain ⟨y, _, rfl⟩ := List.mem_map.mp hx
          rfl
    refine ⟨f, by omega, fr.flatMap (chN m w), fd ++ fr, z4, z5, rfl, rfl, fun q hq => ?_, ?_⟩
    · obtain ⟨r, hr, hq⟩ := List.mem_flatMap.mp hq
      have h2 := chN_mem hq
      have h3 := chN_gt h1 hq
      have h5 := (hb r hr).2
      omega
    · rw [← he]
      show _ = if fr = [] then fd else bfsN m w f (fr.flatMap (chN m w)) (fd ++ fr)
      rw [if_neg h0]
end Ev.k09
namespace Ev.k09
open PySem PySem.Spec PyProof.Rows L2 Ev
theorem call_ouR {F : Nat → Option FnC} {n f np nl : Nat} {code : CallT → CS} {us : List AV} {A : Hs} {xs : List AV} (hF : F f = some ⟨np, nl, .ou, code⟩) (hl : us.length = np) (h : code (callF F n) (us ++ List.replicate (nl - np) .und) A = .rt (.ref A.length) (A ++ [.lst xs])) (ha : okA A = true) (hx : allF xs = true) : callF F (n + 1) f us A = .ok (.ref A.length) (A ++ [.lst xs]) :=
  call_wpO hF hl ⟨by rw [h]; exact finO_new ha hx⟩
theorem cfz_ok {c : CE} {e : En} {A : Hs} {xs : List AV} (h : c e A = .ok (.ref A.length) (A ++ [.lst xs])) (ha : okA A = true) (hx : allF xs = true) : cFz c e A = .ok (.lst xs) A := by
  unfold cFz
  rw [h]
  exact fin1_L ha (Nat.le_refl _) get_app hx
theorem faults_in_o (n : Nat) {x : AV} {ks : List Int} (h : Sq x ks) (hl : ks.length ≤ 12) {w : Nat} (h1 : 1 ≤ w) (h4 : w ≤ 4) (A : Hs) (hA : okA A = true) : callF F (n + 5) 28 [x, tr ks.length w] A = .ok (.ref A.length) (A ++ [.lst ((faultN ks w).map nI)]) := by
  refine call_ouR (f := 28) rfl rfl (ret_ok ?_) hA (allN _)
  refine lck_map (A1 := A) nI (List.range ks.length) (faultB ks w) nI (.tup ((List.range ks.length).map nI)) (iown_tr (w := w) rfl) (fun k => rfl) (by simp; omega) (fun p hp => ⟨_, rfl, ?_, fun _ => rfl⟩) rfl
  have hp := List.mem_range.mp hp
  unfold faultB
  by_cases h0 : 0 < p
  · refine (and_t (A' := A) ?_).trans ?_
    · simp only [List.replicate, Nat.sub_self, Nat.reduceSub, List.append_nil, List.nil_append, List.cons_append, cAnd, cOr, cBin, cUn, cVar, cC, cNot, cIf, cChain, R.bind, RA.bind, dA, List.map_nil, List.getElem?_cons_zero, List.getElem?_cons_succ, List.set_cons_zero, List.set_cons_succ, vIsiC, vIsi, tyA, onB, onBS, pick, Ty.sub, vLe, vLt, vGt, vGe, vAdd, vSub, vMul, vFDiv, vMod, on2I, vNeg, guard', cCall, cMeth, cArgs, aNil, aCons, aApp, cFld, vFld, insOf, cTup, cLst, cLstM, vIntB, vInt, cNu, cTri, cUnd, cRg, kTupA, wipeE, decide_eq_true (show (0 : Int) < (p : Int) by omega)]
    · have hq := par_lt (w := w) h0
      refine (bin_ok (x := .int (ks.getD p 0)) (A' := A) (y := .int (ks.getD (par w p) 0)) (A2 := A) (at_ok h hp (h.var rfl) rfl) (at_ok h (by omega) (h.var rfl) ?_)).trans ?_
      · have := parent_ok n ks.length w p A (by omega) (by omega) (by omega) (by omega)
        rw [if_pos (by omega), par_int h0] at this
        simp only [List.replicate, Nat.sub_self, Nat.reduceSub, List.append_nil, List.nil_append, List.cons_append, cAnd, cOr, cBin, cUn, cVar, cC, cNot, cIf, cChain, R.bind, RA.bind, dA, List.map_nil, List.getElem?_cons_zero, List.getElem?_cons_succ, List.set_cons_zero, List.set_cons_succ, vIsiC, vIsi, tyA, onB, onBS, pick, Ty.sub, vLe, vLt, vGt, vGe, vAdd, vSub, vMul, vFDiv, vMod, on2I, vNeg, guard', cCall, cMeth, cArgs, aNil, aCons, aApp, cFld, vFld, insOf, cTup, cLst, cLstM, vIntB, vInt, cNu, cTri, cUnd, cRg, kTupA, wipeE, w_parent, this]
      · rw [decide_eq_true h0]
        rfl
  · refine (and_f (A' := A) ?_).trans ?_
    · simp only [List.replicate, Nat.sub_self, Nat.reduceSub, List.append_nil, List.nil_append, List.cons_append, cAnd, cOr, cBin, cUn, cVar, cC, cNot, cIf, cChain, R.bind, RA.bind, dA, List.map_nil, List.getElem?_cons_zero, List.getElem?_cons_succ, List.set_cons_zero, List.set_cons_succ, vIsiC, vIsi, tyA, onB, onBS, pick, Ty.sub, vLe, vLt, vGt, vGe, vAdd, vSub, vMul, vFDiv, vMod, on2I, vNeg, guard', cCall, cMeth, cArgs, aNil, aCons, aApp, cFld, vFld, insOf, cTup, cLst, cLstM, vIntB, vInt, cNu, cTri, cUnd, cRg, kTupA, wipeE, decide_eq_false (show ¬ (0 : Int) < (p : Int) by omega)]
    · rw [decide_eq_false h0]
      rfl
theorem faults_o (n : Nat) {x : AV} {ks : List Int} (h : Sq x ks) (hr : Row ks) {w : Nat} (h1 : 1 ≤ w) (h4 : w ≤ 4) (A : Hs) (hA : okA A = true) : callF F (n + 6) 31 [x, nI w] A = .ok (.ref A.length) (A ++ [.lst ((faultN ks w).map nI)]) := by
  have hl := hr.l
  refine call_ouR (f := 31) rfl rfl ((seq_nx (expr_ok (v := .non) (A' := A) ?_)).trans ((seq_nx (expr_ok (v := .non) (A' := A) ?_)).trans (ret_ok ?_))) hA (allN _)
  · exact (call_ok (xs := [nI w]) rfl).trans (check_arms_ok (n + 3) w A (by omega) (by omega))
  · refine (call_ok (xs := [x]) (A' := A) ?_).trans (check_row_ok (n + 2) h hr A)
    exact acons_ok (h.var rfl) rfl
  · refine (call_ok (xs := [x, tr ks.length w]) (A' := A) ?_).trans (faults_in_o n h hl h1 h4 A hA)
    exact acons_ok (h.var rfl) (acons_ok (tnew (n + 2) h hl h1 h4 A hA rfl rfl) rfl)
theorem falls_in_o (n : Nat) {x : AV} {ks : List Int} (h : Sq x ks) (hl : ks.length ≤ 12) {w : Nat} (h1 : 1 ≤ w) (h4 : w ≤ 4) (A : Hs) (hA : okA A = true) : callF F (n + 6) 29 [x, tr ks.length w] A = .ok (.ref A.length) (A ++ [.lst ((fallsN ks w).map avQ)]) := by
  refine call_ouR (f := 29) rfl rfl (ret_ok ?_) hA (allQ _)
  refine lc2_map (A1 := A) nI (List.range ks.length) (fun _ => nI) (subN ks.length w) (fallB ks) (fun p o => avQ (p, o)) (.tup ((List.range ks.length).map nI)) (iown_tr (w := w) rfl) (fun k => rfl) (by simp; omega) (fun p hp => ⟨_, .tup ((subN ks.length w p).map nI), rfl, ?_, fun k => rfl, ?_, fun o ho => ⟨_, rfl, ?_, fun _ => rfl⟩⟩) (by simp; omega) ?_
  · have hp := List.mem_range.mp hp
    have hs := subtree_ok n h1 h4 hl hp A hA
    have : cMeth (callF F (n + 5)) (tmd W dx_subtree) (cVar 1) (aCons (cVar 2) aNil) [x, tr ks.length w, nI p, .und] A = .ok (.tup ((subN ks.length w p).map nI)) A := by
      simp only [List.replicate, Nat.sub_self, Nat.reduceSub, List.append_nil, List.nil_append, List.cons_append, cAnd, cOr, cBin, cUn, cVar, cC, cNot, cIf, cChain, R.bind, RA.bind, dA, List.map_nil, List.getElem?_cons_zero, List.getElem?_cons_succ, List.set_cons_zero, List.set_cons_succ, vIsiC, vIsi, tyA, onB, onBS, pick, Ty.sub, vLe, vLt, vGt, vGe, vAdd, vSub, vMul, vFDiv, vMod, on2I, vNeg, guard', cCall, cMeth, cArgs, aNil, aCons, aApp, cFld, vFld, insOf, cTup, cLst, cLstM, vIntB, vInt, cNu, cTri, cUnd, cRg, kTupA, show tmd W dx_subtree 5 = some (16, []) from rfl]
      exact hs
    exact iown_tup this
  · have := subN_len ks.length w p
    omega
  · have hp := List.mem_range.mp hp
    have ho := subN_lt ho
    exact (bin_ok (at_ok h ho (h.var rfl) rfl) (at_ok h hp (h.var rfl) rfl)).trans rfl
  · rw [falls_map]
    rfl
theorem falls_o (n : Nat) {x : AV} {ks : List Int} (h : Sq x ks) (hr : Row ks) {w : Nat} (h1 : 1 ≤ w) (h4 : w ≤ 4) (A : Hs) (hA : okA A = true) : callF F (n + 7) 32 [x, nI w] A = .ok (.ref A.length) (A ++ [.lst ((fallsN ks w).map avQ)]) := by
  have hl := hr.l
  refine call_ouR (f := 32) rfl rfl ((seq_nx (expr_ok (v := .non) (A' := A) ?_)).trans ((seq_nx (expr_ok (v := .non) (A' := A) ?_)).trans (ret_ok ?_))) hA (allQ _)
  · exact (call_ok (xs := [nI w]) rfl).trans (check_arms_ok (n + 4) w A (by omega) (by omega))
  · refine (call_ok (xs := [x]) (A' := A) ?_).trans (check_row_ok (n + 3) h hr A)
    exact acons_ok (h.var rfl) rfl
  · refine (call_ok (xs := [x, tr ks.length w]) (A' := A) ?_).trans (falls_in_o n h hl h1 h4 A hA)
    exact acons_ok (h.var rfl) (acons_ok (tnew (n + 3) h hl h1 h4 A hA rfl rfl) rfl)
theorem check_heap_ok (n : Nat) {x : AV} {ks : List Int} (h : Sq x ks) (hr : Row ks) {w : Nat} (h1 : 1 ≤ w) (h4 : w ≤ 4) (hH : faultN ks w = []) (A : Hs) (hA : okA A = true) : callF F (n + 6) 55 [x, nI w] A = .ok .non A := by
  have hl := hr.l
  refine call_nx0 (f := 55) (e := [x, nI w, .lst []]) rfl rfl ((seq_nx (expr_ok (v := .non) (A' := A) ?_)).trans ((seq_nx (expr_ok (v := .non) (A' := A) ?_)).trans ((seq_nx (asg_ok (i := 2) (v := .lst []) (A' := A) ?_)).trans ?_)))
  · exact (call_ok (xs := [nI w]) rfl).trans (check_arms_ok (n + 3) w A (by omega) (by omega))
  · refine (call_ok (xs := [x]) (A' := A) ?_).trans (check_row_ok (n + 2) h hr A)
    exact acons_ok (h.var rfl) rfl
  · have q := faults_in_o n h hl h1 h4 A hA
    rw [hH] at q
    refine cfz_ok ?_ hA rfl
    refine (call_ok (xs := [x, tr ks.length w]) (A' := A) ?_).trans q
    exact acons_ok (h.var rfl) (acons_ok (tnew (n + 2) h hl h1 h4 A hA rfl rfl) rfl)
  · exact (if_f (A' := A) ((bin_ok (x := .lst []) (A' := A) (y := .lst []) (A2 := A) rfl rfl).trans (neO_enc (eL eI) (by decide) _ _ [] [] A))).trans rfl
end Ev.k09
namespace Ev.k09
open PySem PySem.Spec PyProof.Rows L2 Ev
theorem check_full_ok (n : Nat) {x : AV} {ks : List Int} (h : Sq x ks) (hr : Row ks) {w : Nat} (h1 : 1 ≤ w) (h4 : w ≤ 4) (hH : faultN ks w = []) {key : Int} (k1 : -1000000000 ≤ key) (k2 : key ≤ 1000000000) (A : Hs) (hA : okA A = true) : callF F (n + 7) 60 [x, .int key, nI w] A = .ok .non A := by
  refine call_nx0 (f := 60) (e := [x, .int key, nI w]) rfl rfl ((seq_nx (expr_ok (v := .non) (A' := A) ?_)).trans ?_)
  · refine (call_ok (xs := [x, nI w]) (A' := A) ?_).trans (check_heap_ok n h hr h1 h4 hH A hA)
    exact acons_ok (h.var rfl) (acons_ok rfl rfl)
  · refine (if_f (A' := A) (not_ok (t := true) ?_)).trans rfl
    exact (call_ok (xs := [.int key]) rfl).trans (is_key_ok (n + 4) key k1 k2 A)
theorem len_sq {x : AV} {ks : List Int} (h : Sq x ks) {call : CallT} {mt : Nat → Option Nat} {i : Nat} {e : En} {A : Hs} (he : e[i]? = some x) : cUn (vLenO call mt) (cVar i) e A = .ok (.int ks.length) A := (un_ok (h.var he)).trans (h.len A)
theorem aapp1 {e : En} {A : Hs} {a c : CE} {x z : AV} (ha : a e A = .ok x A) (hc : c e A = .ok z A) : aApp (aCons a aNil) (aCons c aNil) e A = .ok [x, z] A := by
  unfold aApp
  rw [acons_ok ha anil_ok]
  dsimp only
  rw [acons_ok hc anil_ok]
  rfl
theorem push_ok (n : Nat) {x : AV} {ks : List Int} (h : Sq x ks) (hr : Row ks) (hl : ks.length < 12) {w : Nat} (h1 : 1 ≤ w) (h4 : w ≤ 4) (hH : faultN ks w = []) {key : Int} (k1 : -1000000000 ≤ key) (k2 : key ≤ 1000000000) (A : Hs) (hA : okA A = true) : callF F (n + 8) 61 [x, .int key, nI w] A = .ok (upS w (ks ++ [key]) ks.length) A := by
  refine call_rt0 (f := 61) rfl rfl ((seq_nx (expr_ok (v := .non) (A' := A) ?_)).trans ((seq_nx (if_f (A' := A) ?_)).trans (ret_ok ?_)))
  · refine (call_ok (xs := [x, .int key, nI w]) (A' := A) ?_).trans (check_full_ok n h hr h1 h4 hH k1 k2 A hA)
    exact acons_ok (h.var rfl) (acons_ok rfl (acons_ok rfl rfl))
  · refine (bin_ok (x := .int ks.length) (A' := A) (y := .int 12) (A2 := A) (len_sq h rfl) rfl).trans ((eq_ii _ _ A).trans ?_)
    rw [decide_eq_false (by omega)]
  · have e1 : (ks ++ [key]).length = ks.length + 1 := by simp
    refine (call_ok (xs := [.lst ((ks ++ [key]).map .int), tr (ks ++ [key]).length w, nI ks.length]) (A' := A) ?_).trans (lifted_ok (n + 1) (.inr rfl) h1 h4 (by rw [e1]; omega) A hA (by rw [e1]; omega))
    refine acons_ok (A' := A) (clst_ok ?_ (by rw [e1]; omega)) (acons_ok (A' := A) ?_ (acons_ok (len_sq h rfl) anil_ok))
    · rw [List.map_append]
      exact astar_ok (h.var rfl) h rfl
    · refine new_ok (n + 4) _ w A _ _ (by omega) (by omega) (by omega) (by rw [e1]; omega) hA (aapp1 ?_ rfl)
      refine (bin_ok (x := .int ks.length) (A' := A) (y := .int 1) (A2 := A) (len_sq h rfl) rfl).trans ?_
      rw [e1]
      rfl
theorem without_last_ok (n : Nat) {x : AV} {ks : List Int} (h : Sq x ks) (hl : ks.length ≤ 12) (A : Hs) : callF F (n + 1) 57 [x] A = .ok (.lst ((restN ks).map .int)) A := by
  refine call_rt0 (f := 57) rfl rfl (ret_ok ?_)
  have ec : cBin vGt (cUn (vLenO (callF F n) (tm W mx___len__)) (cVar 0)) (cC (.int 1)) ([x] : En) A = .ok (.bl (decide ((1 : Int) < ks.length))) A := (bin_ok (x := .int ks.length) (A' := A) (y := .int 1) (A2 := A) (len_sq h rfl) rfl).trans rfl
  show cIf _ _ _ ([x] : En) A = _
  unfold cIf
  rw [ec]
  unfold restN
  by_cases h1 : 1 < ks.length
  · rw [decide_eq_true (by omega), if_pos h1]
    obtain ⟨y, hy1, hy2⟩ := h.cut (.int 1) (.int (-1)) (some 1) (some (-1)) rfl rfl ((ks.drop 1).take (ks.length - 2)) (by rw [cut_in, List.length_map, List.map_take, List.map_drop]) A
    show cLst _ ([x] : En) A = _
    refine clst_ok ?_ (by simp; omega)
    rw [List.map_cons]
    refine acons_ok (A' := A) ?_ ?_
    · exact (bin_ok (A' := A) (y := .int (-1)) (A2 := A) (h.var rfl) rfl).trans (h.last (by omega) A)
    · have := astar_ok (c := cTri vSl (cVar 0) (cNu (cC (.int 1))) (cNu (cUn vNeg (cC (.int 1))))) (r := aNil) (e := [x]) (A := A) (x := y) ?_ hy2 anil_ok
      · rw [List.append_nil] at this
        exact this
      · unfold cTri
        rw [h.var rfl]
        exact hy1
  · rw [decide_eq_false (by omega), if_neg h1]
    rfl
end Ev.k09
namespace Ev.k09
open PySem PySem.Spec PyProof.Rows L2 Ev
theorem cif_t {t a b : CE} {e : En} {A A' : Hs} (h : t e A = .ok (.bl true) A') : cIf t a b e A = a e A' := by
  unfold cIf
  rw [h]
  rfl
theorem cif_f {t a b : CE} {e : En} {A A' : Hs} (h : t e A = .ok (.bl false) A') : cIf t a b e A = b e A' := by
  unfold cIf
  rw [h]
  rfl
theorem dnS_eq {w p : Nat} {ks : List Int} (h1 : 1 ≤ w) (hp : p < ks.length) : dnS w ks p = sft (ldnN ks.length w 20 ks p).1 (ldnN ks.length w 20 ks p).2.1 (ldnN ks.length w 20 ks p).2.2 := by
  rw [ldn_eq h1 hp (Nat.le_refl _)]
  rfl
theorem upS_eq {w p : Nat} {ks : List Int} (hp : p < ks.length) : upS w ks p = sft (lupN w 20 ks p).1 (lupN w 20 ks p).2.1 (lupN w 20 ks p).2.2 := by
  rw [lup_eq hp]
  rfl
/-- what taking out leaves: the row, the way, the looks -/
def tkN (w : Nat) (ks : List Int) : List Int × List Nat × Nat := if restN ks = [] then ([], [], 0) else ldnN (restN ks).length w 20 (restN ks) 0
def thN (w : Nat) (ks : List Int) : List Int × List Nat × Nat := if restN ks = [] then ([], [], 0) else
  ((lupN w 20 (holN (restN ks).length w ((restN ks).getD 0 0) 20 (restN ks) 0).1 (holN (restN ks).length w ((restN ks).getD 0 0) 20 (restN ks) 0).2.1).1,
   (lupN w 20 (holN (restN ks).length w ((restN ks).getD 0 0) 20 (restN ks) 0).1 (holN (restN ks).length w ((restN ks).getD 0 0) 20 (restN ks) 0).2.1).2.1,
   (holN (restN ks).length w ((restN ks).getD 0 0) 20 (restN ks) 0).2.2.2 + (lupN w 20 (holN (restN ks).length w ((restN ks).getD 0 0) 20 (restN ks) 0).1 (holN (restN ks).length w ((restN ks).getD 0 0) 20 (restN ks) 0).2.1).2.2)
abbrev sfR (r : List Int × List Nat × Nat) : AV := sft r.1 r.2.1 r.2.2
theorem taken_ok (n : Nat) {x : AV} {ks : List Int} (h : Sq x ks) (hl : ks.length ≤ 12) {w : Nat} (h1 : 1 ≤ w) (h4 : w ≤ 4) (A : Hs) (hA : okA A = true) (hT : A[0]? = some (.tab 0)) : callF F (n + 7) 58 [x, nI w] A = .ok (sfR (tkN w ks)) A := by
  have hrl := restN_len ks
  refine call_rt0 (f := 58) rfl rfl ((seq_nx (asg_ok (i := 2) (v := .lst ((restN ks).map .int)) (A' := A) ?_)).trans (ret_ok ?_))
  · refine (call_ok (xs := [x]) (A' := A) ?_).trans (without_last_ok (n + 5) h hl A)
    exact acons_ok (h.var rfl) rfl
  show cIf _ _ _ ([x, nI w, .lst ((restN ks).map .int)] : En) A = _
  unfold tkN
  generalize restN ks = rs at *
  have sq : Sq (.lst (rs.map .int)) rs := .inr rfl
  have ec : cBin (vNeO (callF F (n + 6)) (tm W mx___eq__)) (cVar 2) (cLst aNil) ([x, nI w, .lst (rs.map .int)] : En) A = .ok (.bl (!decide (rs = []))) A := (bin_ok (x := .lst (rs.map .int)) (A' := A) (y := .lst []) (A2 := A) rfl rfl).trans (neO_enc (eL eI) (by decide) _ _ rs [] A)
  by_cases h0 : rs = []
  · rw [decide_eq_true h0] at ec
    rw [if_pos h0, cif_f ec]
    exact sift_new_ok (n + 5) (row := []) (way := []) (x := .tup []) (y := .tup []) (.inl rfl) (.inr rfl) 0 A hA rfl
  · rw [decide_eq_false h0] at ec
    rw [if_neg h0, cif_t ec]
    have hp : 0 < rs.length := List.length_pos_iff.mpr h0
    have := sunk_ok n sq h1 h4 (by omega) A hA hT hp
    rw [dnS_eq h1 hp] at this
    refine (call_ok (xs := [.lst (rs.map .int), tr rs.length w, nI 0]) (A' := A) ?_).trans this
    exact acons_ok rfl (acons_ok (tnew (n + 3) sq (by omega) h1 h4 A hA rfl rfl) (acons_ok rfl rfl))
end Ev.k09
namespace Ev.k09
open PySem PySem.Spec PyProof.Rows L2 Ev
theorem take_ok' (n : Nat) {x : AV} {ks : List Int} (h : Sq x ks) (hr : Row ks) (h0 : 0 < ks.length) {w : Nat} (h1 : 1 ≤ w) (h4 : w ≤ 4) (hH : faultN ks w = []) (A : Hs) (hA : okA A = true) (hT : A[0]? = some (.tab 0)) : callF F (n + 8) 62 [x, nI w] A = .ok (.tup [.int (ks.getD 0 0), sfR (tkN w ks)]) A := by
  refine call_rt0 (f := 62) rfl rfl ((seq_nx (expr_ok (v := .non) (A' := A) ?_)).trans ((seq_nx (if_f (A' := A) ?_)).trans (ret_ok ?_)))
  · refine (call_ok (xs := [x, nI w]) (A' := A) ?_).trans (check_heap_ok (n + 1) h hr h1 h4 hH A hA)
    exact acons_ok (h.var rfl) (acons_ok rfl rfl)
  · refine (bin_ok (x := .int ks.length) (A' := A) (y := .int 0) (A2 := A) (len_sq h rfl) rfl).trans ((eq_ii _ _ A).trans ?_)
    rw [decide_eq_false (by omega)]
  · refine ctup_ok (acons_ok (A' := A) (at_ok (p := 0) h h0 (h.var rfl) rfl) (acons_ok (A' := A) (x := sfR (tkN w ks)) ?_ anil_ok)) rfl (by simp)
    refine (call_ok (xs := [x, nI w]) (A' := A) ?_).trans (taken_ok n h hr.l h1 h4 A hA hT)
    exact acons_ok (h.var rfl) (acons_ok rfl rfl)
end Ev.k09
namespace Ev.k09
open PySem PySem.Spec PyProof.Rows L2 Ev
theorem parents_ok (n : Nat) {m w : Nat} (hm : m ≤ 12) (h1 : 1 ≤ w) (h4 : w ≤ 4) (A : Hs) (hA : okA A = true) : callF F (n + 5) 72 [tr m w] A = .ok (.lst ((parN m w).map nI)) A := by
  refine call_rtL (f := 72) (i := A.length) (B := [.lst ((parN m w).map nI)]) rfl rfl hA (Nat.le_refl _) get_app (allN _) (ret_ok ?_)
  refine (un_ok (x := .lst (((List.range m).filter fun p => !decide (chN m w p = [])).map nI)) (A' := A) ?_).trans ?_
  · refine lck_map (A1 := A) nI (List.range m) (fun p => !decide (chN m w p = [])) nI (.tup ((List.range m).map nI)) (iown_tr (w := w) rfl) (fun k => rfl) (by simp; omega) (fun p hp => ⟨_, rfl, ?_, fun _ => rfl⟩) (kLst_ok (allN _))
    have hp := List.mem_range.mp hp
    exact (bin_ok (tree_ix n hp h1 h4 hm rfl rfl) (show cTup aNil _ A = .ok (.tup []) A from rfl)).trans (neO_enc (eT eNt) (by decide) _ _ (chN m w p) [] A)
  · show R.ok (.ref A.length) (A ++ [.lst ((((List.range m).filter fun p => !decide (chN m w p = [])).map nI).reverse)]) = _
    rw [← List.map_reverse]
    rfl
/-- a Built: its slots stand as changes, looks, row, stops -/
abbrev blt (s : Bu) : AV := .obj 11 [nI s.2.2.1, nI s.2.2.2, avT s.1, .tup (s.2.1.map avQ)]
theorem wb_row : tb W.cl fx_row 11 = some 2 := rfl
theorem wb_stops : tb W.cl fx_stops 11 = some 3 := rfl
theorem wb_changes : tb W.cl fx_changes 11 = some 0 := rfl
theorem wb_looks : tb W.cl fx_looks 11 = some 1 := rfl
theorem blt_init_ok (n : Nat) {x y : AV} {s : Bu} {A : Hs} (h : Sq x s.1) (hu : y ≠ .und) (hy : ∀ c, vTuple y (A ++ [c]) = .ok (.tup (s.2.1.map avQ)) (A ++ [c])) : callF F (n + 1) 69 [.ref A.length, x, y, nI s.2.2.1, nI s.2.2.2] (A ++ [.ins 11 []]) = .ok .non (A ++ [.ins 11 [nI s.2.2.1, nI s.2.2.2, avT s.1, .tup (s.2.1.map avQ)]]) := by
  have f1 : sFldS (tb W.cl fx_row) (cVar 0) (cUn vTuple (cVar 1)) ([.ref A.length, x, y, nI s.2.2.1, nI s.2.2.2] : En) (A ++ [.ins 11 []]) = .nx [.ref A.length, x, y, nI s.2.2.1, nI s.2.2.2] (A ++ [.ins 11 [.und, .und, avT s.1]]) := by
    refine (fldS_ok ((un_ok (h.var rfl)).trans (tuple_sq h _)) rfl get_app wb_row).trans ?_
    rw [set_app]
    rfl
  have f2 : sFldS (tb W.cl fx_stops) (cVar 0) (cUn vTuple (cVar 2)) ([.ref A.length, x, y, nI s.2.2.1, nI s.2.2.2] : En) (A ++ [.ins 11 [.und, .und, avT s.1]]) = .nx [.ref A.length, x, y, nI s.2.2.1, nI s.2.2.2] (A ++ [.ins 11 [.und, .und, avT s.1, .tup (s.2.1.map avQ)]]) := by
    refine (fldS_ok ((un_ok (var_ok rfl hu)).trans (hy _)) rfl get_app wb_stops).trans ?_
    rw [set_app]
    rfl
  have f3 : sFldS (tb W.cl fx_changes) (cVar 0) (cVar 3) ([.ref A.length, x, y, nI s.2.2.1, nI s.2.2.2] : En) (A ++ [.ins 11 [.und, .und, avT s.1, .tup (s.2.1.map avQ)]]) = .nx [.ref A.length, x, y, nI s.2.2.1, nI s.2.2.2] (A ++ [.ins 11 [nI s.2.2.1, .und, avT s.1, .tup (s.2.1.map avQ)]]) := by
    refine (fldS_ok (y := nI s.2.2.1) rfl rfl get_app wb_changes).trans ?_
    rw [set_app]
    rfl
  refine call_nxS (f := 69) (e := [.ref A.length, x, y, nI s.2.2.1, nI s.2.2.2]) rfl rfl ((seq_nx f1).trans ((seq_nx f2).trans ((seq_nx f3).trans ?_))) (by simp)
  refine (fldS_ok (y := nI s.2.2.2) rfl rfl get_app wb_looks).trans ?_
  rw [set_app]
  rfl
theorem blt_new_ok (n : Nat) {x y : AV} (s : Bu) {A : Hs} (h : Sq x s.1) (hu : y ≠ .und) (hy : ∀ c, vTuple y (A ++ [c]) = .ok (.tup (s.2.1.map avQ)) (A ++ [c])) (hA : okA A = true) {a : CA} {e : En} {B : Hs} (ha : a e B = .ok [x, y, nI s.2.2.1, nI s.2.2.2] A) : cNew (callF F (n + 1)) 11 69 false [] a e B = .ok (blt s) A := by
  unfold cNew cArgs
  rw [ha]
  dsimp only [RA.bind]
  unfold vNew
  rw [List.append_nil, blt_init_ok n h hu hy]
  exact fin1_O hA rfl
theorem tupQ (l : List (Nat × Nat)) (A : Hs) : vTuple (.tup (l.map avQ)) A = .ok (.tup (l.map avQ)) A := by
  show guard' (allF (l.map avQ)) (R.ok (.tup (l.map avQ)) A) = _
  rw [allQ]
  rfl
theorem built_ok (n : Nat) {x : AV} {ks : List Int} (h : Sq x ks) {w : Nat} (h1 : 1 ≤ w) (h4 : w ≤ 4) (hm : ks.length ≤ 12) (A : Hs) (hA : okA A = true) (hT : A[0]? = some (.tab 0)) : callF F (n + 7) 73 [x, tr ks.length w] A = .ok (blt (bldN w ks)) A := by
  refine call_rt (f := 73) rfl rfl [.lst ((bldN w ks).2.1.map avQ)] rfl hA ?_
  refine (seq_nx (par3_ok (u := .ref A.length) (v := .int 0) (w := .int 0) (A' := A ++ [.lst []]) ?_)).trans ?_
  · exact acons_ok rfl (acons_ok rfl (acons_ok rfl rfl))
  have hpar : ∀ p ∈ parN ks.length w, p < ks.length := fun p hp => parN_lt hp
  have hpl : (parN ks.length w).length ≤ 12 := by
    unfold parN
    rw [List.length_reverse]
    refine Nat.le_trans (List.length_filter_le _ _) ?_
    simpa using hm
  refine for_seq (.lst (.lst ((parN ks.length w).map nI))) ((parN ks.length w).map nI) (fun rest e B => ∃ (l : List Nat) (s : Bu) (y z5 z6 : AV), rest = l.map nI ∧ (∀ p ∈ l, p < ks.length) ∧ s.2.1.length + l.length ≤ 12 ∧ Sq y s.1 ∧ s.1.length = ks.length ∧ bldN w ks = l.foldl (stB w) s ∧ e = [y, tr ks.length w, .ref A.length, nI s.2.2.1, nI s.2.2.2, z5, z6] ∧ B = A ++ [.lst (s.2.1.map avQ)]) ?_ (fun B k => rfl) (by simp; omega) ⟨parN ks.length w, (ks, [], 0, 0), x, .und, .und, rfl, hpar, by simpa using hpl, h, rfl, rfl, rfl, rfl⟩ ?_ ?_
  · refine iown_lst ?_
    refine (call_ok (xs := [tr ks.length w]) (A' := A ++ [.lst []]) rfl).trans ?_
    exact parents_ok (n + 1) hm h1 h4 _ (okA_lst hA rfl)
  · rintro v r e B ⟨l, s, y, z5, z6, hr, hlt, hlen, hs, hsl, hb, rfl, rfl⟩
    cases l with
    | nil => cases hr
    | cons p l =>
    cases hr
    have hp : p < s.1.length := by rw [hsl]; exact hlt p (by simp)
    have hA' : okA (A ++ [Cell.lst (s.2.1.map avQ)]) = true := okA_lst hA (allQ _)
    have hT' : (A ++ [Cell.lst (s.2.1.map avQ)])[0]? = some (.tab 0) := by
      rw [List.getElem?_append_left (List.getElem?_eq_some_iff.mp hT).1]
      exact hT
    have hsk := sunk_ok n hs h1 h4 (by omega) _ hA' hT' hp
    rw [dnS_eq h1 hp] at hsk
    have hlast := ldn_last (m := s.1.length) (w := w) (k := 20) (p := p) (late := s.1)
    obtain ⟨q0, r0, hne⟩ := ldn_ne (m := s.1.length) (w := w) 20 s.1 p
    have hnl : 1 ≤ (ldnN s.1.length w 20 s.1 p).2.1.length := by rw [hne]; simp
    have hRl := ldn_len (m := s.1.length) (w := w) (k := 20) (p := p) (late := s.1) hp (Nat.le_refl _)
    rw [hsl] at hsk
    refine ⟨_, [avT (stB w s p).1, tr ks.length w, .ref A.length, nI (stB w s p).2.2.1, nI (stB w s p).2.2.2, nI p, sft (ldnN s.1.length w 20 s.1 p).1 (ldnN s.1.length w 20 s.1 p).2.1 (ldnN s.1.length w 20 s.1 p).2.2], A ++ [.lst ((stB w s p).2.1.map avQ)], rfl, ?_, l, stB w s p, _, _, _, rfl, fun q hq => hlt q (List.mem_cons_of_mem _ hq), ?_, .inl rfl, ?_, hb, rfl, rfl⟩
    rotate_left
    · rw [List.length_cons] at hlen
      show (s.2.1 ++ [_]).length + l.length ≤ 12
      rw [List.length_append]
      simp only [List.length_cons, List.length_nil]
      omega
    · show (ldnN s.1.length w 20 s.1 p).1.length = ks.length
      rw [hRl, hsl]
    unfold stB
    rw [← hsl] at hsk ⊢
    generalize hR : ldnN s.1.length w 20 s.1 p = R at *
    refine (seq_nx (asg_ok (i := 6) (v := sft R.1 R.2.1 R.2.2) (A' := A ++ [Cell.lst (s.2.1.map avQ)]) ?_)).trans ?_
    · refine (call_ok (xs := [y, tr s.1.length w, nI p]) (A' := A ++ [Cell.lst (s.2.1.map avQ)]) ?_).trans hsk
      exact acons_ok (hs.var rfl) (acons_ok rfl (acons_ok rfl rfl))
    show sSeq _ _ ([y, tr s.1.length w, .ref A.length, nI s.2.2.1, nI s.2.2.2, nI p, sft R.1 R.2.1 R.2.2] : En) _ = _
    refine (seq_nx (e' := [avT R.1, tr s.1.length w, .ref A.length, nI s.2.2.1, nI (s.2.2.2 + R.2.2), nI p, sft R.1 R.2.1 R.2.2]) (A' := A ++ [.lst (s.2.1.map avQ)]) (par_ok (v := avT R.1) (w := nI (s.2.2.2 + R.2.2)) (A' := A ++ [.lst (s.2.1.map avQ)]) ?_)).trans ?_
    · exact acons_ok rfl (acons_ok rfl rfl)
    refine (seq_nx (expr_ok (v := .non) (A' := A ++ [.lst ((s.2.1 ++ [(p, R.2.1.getLastD 0)]).map avQ)]) ?_)).trans ?_
    · refine ml_at get_app rfl (ys := [avQ (p, R.2.1.getLastD 0)]) ?_ ?_
      · refine acons_ok (A' := A ++ [.lst (s.2.1.map avQ)]) (ctup_ok (acons_ok (x := nI p) rfl (acons_ok (x := nI (R.2.1.getLastD 0)) (A' := A ++ [.lst (s.2.1.map avQ)]) ?_ anil_ok)) rfl (by simp)) anil_ok
        exact (bin_ok (x := .tup (R.2.1.map nI)) (A' := A ++ [.lst (s.2.1.map avQ)]) (y := .int (-1)) (A2 := A ++ [.lst (s.2.1.map avQ)]) rfl rfl).trans (lastT_ok _ _ hlast _)
      · rw [List.length_cons] at hlen
        rw [app_at get_app (by rw [List.length_map]; omega), set_app, List.map_append]
        rfl
    · unfold sAug
      rw [show cVar 3 ([avT R.1, tr s.1.length w, .ref A.length, nI s.2.2.1, nI (s.2.2.2 + R.2.2), nI p, sft R.1 R.2.1 R.2.2] : En) (A ++ [.lst ((s.2.1 ++ [(p, R.2.1.getLastD 0)]).map avQ)]) = .ok (nI s.2.2.1) _ from rfl]
      dsimp only
      have e1 : cBin vSub (cUn (vLenO (callF F (n + 6)) (tm W mx___len__)) (cFld (tb W.cl fx_way) (cVar 6))) (cC (.int 1)) ([avT R.1, tr s.1.length w, .ref A.length, nI s.2.2.1, nI (s.2.2.2 + R.2.2), nI p, sft R.1 R.2.1 R.2.2] : En) (A ++ [.lst ((s.2.1 ++ [(p, R.2.1.getLastD 0)]).map avQ)]) = .ok (nI (R.2.1.length - 1)) (A ++ [.lst ((s.2.1 ++ [(p, R.2.1.getLastD 0)]).map avQ)]) := by
        refine (bin_ok (x := .int R.2.1.length) (A' := A ++ [.lst ((s.2.1 ++ [(p, R.2.1.getLastD 0)]).map avQ)]) (y := .int 1) (A2 := A ++ [.lst ((s.2.1 ++ [(p, R.2.1.getLastD 0)]).map avQ)]) ?_ rfl).trans ?_
        · exact (un_ok (x := .tup (R.2.1.map nI)) (A' := A ++ [.lst ((s.2.1 ++ [(p, R.2.1.getLastD 0)]).map avQ)]) rfl).trans (len_t nI _ _)
        · show Ev.R.ok (.int ((R.2.1.length : Int) - 1)) _ = Ev.R.ok (.int ((R.2.1.length - 1 : Nat) : Int)) _
          congr 2
          omega
      rw [e1]
      rfl
  · rintro e B ⟨l, s, y, z5, z6, hr, hlt, hlen, hs, hsl, hb, rfl, rfl⟩
    have : l = [] := by
      cases l with
      | nil => rfl
      | cons a b => cases hr
    subst this
    rw [hb]
    refine ret_ok (v := blt s) (A' := A ++ [.lst (s.2.1.map avQ)]) ?_
    refine blt_new_ok (n + 5) s hs (y := .ref A.length) (by intro z; cases z) (fun c => ?_) (okA_lst hA (allQ _)) (x := y) ?_
    · refine tup_at (xs := s.2.1.map avQ) ?_ (allQ _)
      rw [List.append_assoc]
      exact c2_0
    · exact acons_ok (hs.var rfl) (acons_ok rfl (acons_ok rfl (acons_ok rfl rfl)))
theorem build_ok (n : Nat) {x : AV} {ks : List Int} (h : Sq x ks) (hr : Row ks) {w : Nat} (h1 : 1 ≤ w) (h4 : w ≤ 4) (A : Hs) (hA : okA A = true) (hT : A[0]? = some (.tab 0)) : callF F (n + 8) 74 [x, nI w] A = .ok (blt (bldN w ks)) A := by
  have hl := hr.l
  refine call_rt0 (f := 74) rfl rfl ((seq_nx (expr_ok (v := .non) (A' := A) ?_)).trans ((seq_nx (expr_ok (v := .non) (A' := A) ?_)).trans (ret_ok ?_)))
  · exact (call_ok (xs := [nI w]) rfl).trans (check_arms_ok (n + 5) w A (by omega) (by omega))
  · refine (call_ok (xs := [x]) (A' := A) ?_).trans (check_row_ok (n + 4) h hr A)
    exact acons_ok (h.var rfl) rfl
  · refine (call_ok (xs := [x, tr ks.length w]) (A' := A) ?_).trans (built_ok n h h1 h4 hl A hA hT)
    exact acons_ok (h.var rfl) (acons_ok (tnew (n + 4) h hl h1 h4 A hA rfl rfl) rfl)
end Ev.k09
namespace Ev.k09
open PySem PySem.Spec PyProof.Rows L2 Ev
abbrev trip (r : List Int × List Nat × Nat) : AV := .tup [avT r.1, .tup (r.2.1.map nI), nI r.2.2]
end Ev.k09
namespace Ev.k09
open PySem PySem.Spec PyProof.Rows L2 Ev
/-- (row, way, looks), as data -/
def eTr : Enc (List Int × List Nat × Nat) := ⟨fun r => .tup [avT r.1, .tup (r.2.1.map nI), nI r.2.2], fun r => .tuple [(eT eI).dd r.1, (eT eNt).dd r.2.1, .int r.2.2], 2, fun n A r hn => by
    obtain ⟨m, rfl⟩ : ∃ m, n = m + 1 := ⟨n - 1, by omega⟩
    show (optAll (dat m A) [(eT eI).av r.1, (eT eNt).av r.2.1, eNt.av r.2.2]).map PyData.tuple = _
    unfold optAll
    rw [(eT eI).h m A r.1 (show 0 + 1 ≤ m by omega)]
    dsimp only
    unfold optAll
    rw [(eT eNt).h m A r.2.1 (show 0 + 1 ≤ m by omega)]
    dsimp only
    unfold optAll
    rw [eNt.h m A r.2.2 (Nat.zero_le _)]
    rfl, fun r s => by
    obtain ⟨a, b, c⟩ := r
    obtain ⟨a', b', c'⟩ := s
    have e1 := (eT eI).eqv a a'
    have e2 := (eT eNt).eqv b b'
    rw [Bool.eq_iff_iff, decide_eq_true_iff]
    simp only [PyData.eqv, PyData.eqvAll, e1, e2]
    simp
    intro _ _
    omega, fun _ => rfl, fun _ _ => rfl⟩
theorem flds (r : List Int) (way : List Nat) (c : Nat) {i : Nat} {e : En} {A : Hs} (he : e[i]? = some (sft r way c)) : cTup (aCons (cFld (tb W.cl fx_row) (cVar i)) (aCons (cFld (tb W.cl fx_way) (cVar i)) (aCons (cFld (tb W.cl fx_looks) (cVar i)) aNil))) e A = .ok (trip (r, way, c)) A := by
  have hv : cVar i e A = .ok (sft r way c) A := var_ok he (by intro z; cases z)
  have f1 : cFld (tb W.cl fx_row) (cVar i) e A = .ok (avT r) A := (un_ok hv).trans rfl
  have f2 : cFld (tb W.cl fx_way) (cVar i) e A = .ok (.tup (way.map nI)) A := (un_ok hv).trans rfl
  have f3 : cFld (tb W.cl fx_looks) (cVar i) e A = .ok (nI c) A := (un_ok hv).trans rfl
  exact ctup_ok (acons_ok f1 (acons_ok f2 (acons_ok f3 anil_ok))) rfl (by simp)
theorem sift_eq_ok (n : Nat) (r r' : List Int) (way way' : List Nat) (c c' : Nat) (A : Hs) : callF F (n + 1) 41 [sft r way c, sft r' way' c'] A = .ok (.bl (decide ((r, way, c) = (r', way', c')))) A := by
  refine call_rt0 (f := 41) rfl rfl (ret_ok ((and_t (A' := A) rfl).trans ?_))
  exact (bin_ok (x := trip (r, way, c)) (A' := A) (y := trip (r', way', c')) (A2 := A) (flds r way c rfl) (flds r' way' c' rfl)).trans (eqO_enc eTr (by decide) _ _ (r, way, c) (r', way', c') A)
end Ev.k09
namespace Ev.k09
open PySem PySem.Spec PyProof.Rows L2 Ev
theorem vne_s (n : Nat) (r r' : List Int) (way way' : List Nat) (c c' : Nat) (A : Hs) : vNeO (callF F (n + 1)) (tm W mx___eq__) (sft r way c) (sft r' way' c') A = .ok (.bl (!decide ((r, way, c) = (r', way', c')))) A := by
  show (match callF F (n + 1) 41 [sft r way c, sft r' way' c'] A with | .ok z B => onBl (fun b B => guard' (okR (tm W mx___eq__) A (sft r' way' c')) (.ok (.bl !b) B)) z B | .bad => .bad) = _
  rw [sift_eq_ok]
  rfl
end Ev.k09
namespace Ev.k09
open PySem PySem.Spec PyProof.Rows L2 Ev
theorem w_parts : tmd W dx_all_parts 11 = some (71, []) := rfl
section
variable (s : Bu) {i : Nat} {e : En} {A : Hs} (he : e[i]? = some (blt s))
include he
theorem b_row : cFld (tb W.cl fx_row) (cVar i) e A = .ok (avT s.1) A := (un_ok (var_ok he (by intro z; cases z))).trans rfl
theorem b_stops : cFld (tb W.cl fx_stops) (cVar i) e A = .ok (.tup (s.2.1.map avQ)) A := (un_ok (var_ok he (by intro z; cases z))).trans rfl
theorem b_changes : cFld (tb W.cl fx_changes) (cVar i) e A = .ok (nI s.2.2.1) A := (un_ok (var_ok he (by intro z; cases z))).trans rfl
theorem b_looks : cFld (tb W.cl fx_looks) (cVar i) e A = .ok (nI s.2.2.2) A := (un_ok (var_ok he (by intro z; cases z))).trans rfl
end
theorem parts_ok (n : Nat) (s : Bu) (A : Hs) (hA : okA A = true) : callF F (n + 1) 71 [blt s] A = .ok (buL s) A := by
  refine call_rtL (f := 71) (i := A.length) (B := [.lst [avT s.1, .tup (s.2.1.map avQ), nI s.2.2.1, nI s.2.2.2]]) rfl rfl hA (Nat.le_refl _) get_app rfl (ret_ok ?_)
  show cArgs _ _ [blt s] A = _
  unfold cArgs
  rw [acons_ok (b_row s rfl) (acons_ok (b_stops s rfl) (acons_ok (b_changes s rfl) (acons_ok (b_looks s rfl) anil_ok)))]
  rfl
theorem blt_eq_ok (n : Nat) (s t : Bu) (A : Hs) (hA : okA A = true) : callF F (n + 2) 70 [blt s, blt t] A = .ok (.bl (decide (s = t))) A := by
  refine call_rt0 (f := 70) rfl rfl (ret_ok ((and_t (A' := A) rfl).trans ?_))
  refine (bin_ok (x := buL s) (A' := A) (y := buL t) (A2 := A) ?_ ?_).trans (eqO_enc eBL (by decide) _ _ s t A)
  · show cMeth _ _ _ _ ([blt s, blt t] : En) A = _
    unfold cMeth
    rw [show cVar 0 ([blt s, blt t] : En) A = .ok (blt s) A from rfl]
    dsimp only [insOf]
    rw [w_parts]
    exact parts_ok n s A hA
  · show cMeth _ _ _ _ ([blt s, blt t] : En) A = _
    unfold cMeth
    rw [show cVar 1 ([blt s, blt t] : En) A = .ok (blt t) A from rfl]
    dsimp only [insOf]
    rw [w_parts]
    exact parts_ok n t A hA
theorem vne_b (n : Nat) (s t : Bu) (A : Hs) (hA : okA A = true) : vNeO (callF F (n + 2)) (tm W mx___eq__) (blt s) (blt t) A = .ok (.bl (!decide (s = t))) A := by
  show (match callF F (n + 2) 70 [blt s, blt t] A with | .ok z B => onBl (fun b B => guard' (okR (tm W mx___eq__) A (blt t)) (.ok (.bl !b) B)) z B | .bad => .bad) = _
  rw [blt_eq_ok n s t A hA]
  rfl
theorem nblt_ok (n : Nat) (s : Bu) {A : Hs} (hA : okA A = true) {a b c d : CE} {e : En} (ha : a e A = .ok (avT s.1) A) (hb : b e A = .ok (.tup (s.2.1.map avQ)) A) (hc : c e A = .ok (nI s.2.2.1) A) (hd : d e A = .ok (nI s.2.2.2) A) :
    cNew (callF F (n + 1)) 11 69 false [] (aCons a (aCons b (aCons c (aCons d aNil)))) e A = .ok (blt s) A :=
  blt_new_ok n s (.inl rfl) (y := .tup (s.2.1.map avQ)) (by intro z; cases z) (fun c => tupQ _ _) hA (acons_ok ha (acons_ok hb (acons_ok hc (acons_ok hd anil_ok))))
end Ev.k09
namespace Ev.k09
open PySem PySem.Spec PyProof.Rows L2 Ev
theorem tk_perm {w : Nat} {ks : List Int} (h0 : 0 < ks.length) : (ks.getD 0 0 :: (tkN w ks).1).Perm ks := by
  refine List.Perm.trans (List.Perm.cons _ ?_) (restN_perm h0)
  unfold tkN
  split
  · rename_i h
    rw [h]
  · rename_i h
    exact ldn_perm 20 0 _ (List.length_pos_iff.mpr h) (Nat.le_refl _)
end Ev.k09
namespace Ev.k09
open PySem PySem.Spec PyProof.Rows L2 Ev
theorem arms_okB (n : Nat) (ns : List Int) (h : ns.length ≤ 63) (k : Int) (B : Hs) : ∃ w : Nat, 1 ≤ w ∧ w ≤ 4 ∧ callF F (n + 4) 35 [.ref 1] (.tab 0 :: dr ns k :: B) = .ok (nI w) (.tab 0 :: dr ns (k + 1) :: B) := by
  obtain ⟨x, hx, hp⟩ := pick_ok n ns h k [2, 2, 2, 3, 1, 4] (by simp) B
  have : x = 1 ∨ x = 2 ∨ x = 3 ∨ x = 4 := by
    simp at hx
    omega
  obtain ⟨w, rfl, h1, h4⟩ : ∃ w : Nat, x = w ∧ 1 ≤ w ∧ w ≤ 4 := ⟨x.toNat, by omega, by omega, by omega⟩
  exact ⟨w, h1, h4, call_rtS (f := 35) rfl rfl (ret_ok ((call_ok (xs := [.ref 1, .lst ([2, 2, 2, 3, 1, 4].map .int)]) rfl).trans hp)) rfl⟩
theorem okA_dr (ns : List Int) (k k' : Int) (B : Hs) : okA (.tab 0 :: dr ns k :: B) = okA (.tab 0 :: dr ns k' :: B) := rfl
theorem keys_okB (n : Nat) (ns : List Int) (h : ns.length ≤ 63) (k most span : Int) (hm : 0 ≤ most) (hm2 : most ≤ 1000) (hs : 0 < span) (B : Hs) (hB : okA (.tab 0 :: dr ns k :: B) = true) : ∃ (ks : List Int) (k' : Int), (ks.length : Int) ≤ most ∧ (∀ x ∈ ks, -(span / 2) ≤ x ∧ x < span - span / 2) ∧ callF F (n + 3) 25 [.ref 1, .int most, .int span] (.tab 0 :: dr ns k :: B) = .ok (.lst (ks.map .int)) (.tab 0 :: dr ns k' :: B) := by
  obtain ⟨c, c0, c1, hc⟩ := take_ok n ns h k (most + 1) (by omega) B
  have hlc : ∃ (acc : List AV) (A' : Hs), cLCk kLstM (iRg (cC (.int 0)) (cCall (callF F (n + 2)) 20 [] (aCons (cVar 0) (aCons (cBin vAdd (cVar 1) (cC (.int 1))) aNil)))) (gN 3) (cC (.bl true)) (cBin vSub (cCall (callF F (n + 2)) 20 [] (aCons (cVar 0) (aCons (cVar 2) aNil))) (cUn vIntB (cBin vFDiv (cVar 2) (cC (.int 2))))) [3] [.ref 1, .int most, .int span, .und] (.tab 0 :: dr ns k :: B) = kLstM acc.reverse A' ∧
      ∃ (ks : List Int) (k' : Int), acc.reverse = ks.map AV.int ∧ A' = .tab 0 :: dr ns k' :: B ∧ ks.length + ([] : List AV).length = (rgI 0 c).length ∧ ∀ x ∈ ks, -(span / 2) ≤ x ∧ x < span - span / 2 := by
    refine lck_inv (.rng 0 (c - 0).toNat) ((rgI 0 c).map .int) (fun rest acc B' => ∃ (ks : List Int) (k' : Int), acc.reverse = ks.map AV.int ∧ B' = .tab 0 :: dr ns k' :: B ∧ ks.length + rest.length = (rgI 0 c).length ∧ ∀ x ∈ ks, -(span / 2) ≤ x ∧ x < span - span / 2) (irg_ok (A1 := .tab 0 :: dr ns k :: B) (A2 := .tab 0 :: dr ns (k + 1) :: B) rfl ?_ (by omega) (by omega) (by omega) (by omega)) (fun A j => at_rngI A j) (by rw [List.length_map, rgI_len]; omega) ⟨[], k + 1, rfl, rfl, by simp, by simp⟩ ?_
    · exact (call_ok (xs := [.ref 1, .int (most + 1)]) rfl).trans hc
    rintro x r acc B' ⟨ks, k', h1, rfl, h3, h4⟩
    obtain ⟨z, z0, z1, hz⟩ := take_ok n ns h k' span hs B
    refine ⟨_, rfl, .int (z - span / 2), .tab 0 :: dr ns (k' + 1) :: B, ?_, ks ++ [z - span / 2], k' + 1, by rw [List.reverse_cons, h1]; simp, rfl, by rw [List.length_append, ← h3]; simp; omega, fun y hy => ?_⟩
    · refine (bin_ok (x := .int z) (A' := .tab 0 :: dr ns (k' + 1) :: B) (y := .int (span / 2)) (A2 := .tab 0 :: dr ns (k' + 1) :: B) ?_ ?_).trans rfl
      · exact (call_ok (xs := [.ref 1, .int span]) rfl).trans hz
      · simp only [List.replicate, Nat.sub_self, Nat.reduceSub, List.append_nil, List.nil_append, List.cons_append, cAnd, cOr, cBin, cUn, cVar, cC, cNot, cIf, cChain, R.bind, RA.bind, dA, List.map_nil, List.getElem?_cons_zero, List.getElem?_cons_succ, List.set_cons_zero, List.set_cons_succ, vIsiC, vIsi, tyA, onB, onBS, pick, Ty.sub, vLe, vLt, vGt, vGe, vAdd, vSub, vMul, vFDiv, vMod, on2I, vNeg, guard', cCall, cMeth, cArgs, aNil, aCons, aApp, cFld, vFld, insOf, cTup, cLst, cLstM, vIntB, vInt, cNu, cTri, cUnd, cRg, kTupA, wipeE, show (decide ((0 : Int) < 2) && decide ((2 : Int) < 1073741824)) = true by decide]
    · rcases List.mem_append.mp hy with hy | hy
      · exact h4 y hy
      · rw [List.mem_singleton] at hy
        subst hy
        omega
  obtain ⟨acc, A', h1, ks, k', h2, rfl, h3, h4⟩ := hlc
  refine ⟨ks, k', by rw [rgI_len] at h3; simp at h3; omega, h4, ?_⟩
  refine call_rtLB (f := 25) (A' := .tab 0 :: dr ns k' :: B) (B := [.lst (ks.map .int)]) (i := (.tab 0 :: dr ns k' :: B).length) rfl rfl (okA_dr ns k k' B ▸ hB) rfl (Nat.le_refl _) get_app (allI ks) (ret_ok ?_)
  refine h1.trans ?_
  rw [h2]
  rfl
end Ev.k09
namespace Ev.k09
open PySem PySem.Spec PyProof.Rows L2 Ev
structure LA (A : Hs) : Prop where
  ex : ∃ R, A = .tab 0 :: R ∧ R.all lstC = true
  ok : okA A = true
theorem LA.app {A : Hs} (h : LA A) {xs : List AV} (hx : allF xs = true) : LA (A ++ [.lst xs]) := by
  obtain ⟨R, rfl, hR⟩ := h.ex
  exact ⟨⟨R ++ [.lst xs], rfl, by rw [List.all_append, hR]; rfl⟩, okA_lst h.ok hx⟩
theorem lend_at {A : Hs} {i : Nat} {xs : List AV} (h0 : 0 < i) (h : A[i]? = some (.lst xs)) (hx : allF xs = true) : lendV 1 A (.ref i) = some (.lst xs) := by
  unfold lendV
  dsimp only
  rw [show Nat.blt i 1 = false from by
    cases e : Nat.blt i 1 with
    | true => exact absurd (blt_lt e) (by omega)
    | false => rfl]
  dsimp only
  rw [h]
  dsimp only
  rw [hx]
  rfl
theorem lnd_v {n f : Nat} {us us' : List AV} {A : Hs} {v : AV} (L : LA A) (hus : optAll (lendV 1 A) us = some us') (hc : callF F n f us' [.tab 0] = .ok v [.tab 0]) (hw : lndB 1 A.length v = some v) : lnd 1 (callF F n) f us A = .ok v A := by
  obtain ⟨R, rfl, hR⟩ := L.ex
  unfold lnd
  rw [hus]
  dsimp only
  rw [show (Nat.ble 1 (Cell.tab 0 :: R).length && ((List.take 1 (Cell.tab 0 :: R)).all tabC && (List.drop 1 (Cell.tab 0 :: R)).all lstC)) = true from by
    rw [show List.drop 1 (Cell.tab 0 :: R) = R from rfl, hR]
    show (Nat.ble 1 (R.length + 1) && true) = true
    rw [Nat.ble_eq_true_of_le (by omega)]
    rfl]
  show (match callF F n f us' [.tab 0] with | .ok w B => _ | .bad => Ev.R.bad) = _
  rw [hc]
  dsimp only
  rw [hw]
  show pick true (Ev.R.ok v ([Cell.tab 0] ++ (R ++ []))) Ev.R.bad = _
  rw [List.append_nil]
  rfl
theorem lnd_l {n f : Nat} {us us' : List AV} {A : Hs} {xs : List AV} (L : LA A) (hus : optAll (lendV 1 A) us = some us') (hc : callF F n f us' [.tab 0] = .ok (.ref 1) ([.tab 0] ++ [.lst xs])) (hx : xs.all (lentV 5) = true) : lnd 1 (callF F n) f us A = .ok (.ref A.length) (A ++ [.lst xs]) := by
  obtain ⟨R, rfl, hR⟩ := L.ex
  unfold lnd
  rw [hus]
  dsimp only
  rw [show (Nat.ble 1 (Cell.tab 0 :: R).length && ((List.take 1 (Cell.tab 0 :: R)).all tabC && (List.drop 1 (Cell.tab 0 :: R)).all lstC)) = true from by
    rw [show List.drop 1 (Cell.tab 0 :: R) = R from rfl, hR]
    show (Nat.ble 1 (R.length + 1) && true) = true
    rw [Nat.ble_eq_true_of_le (by omega)]
    rfl]
  show (match callF F n f us' [.tab 0] with | .ok w B => _ | .bad => Ev.R.bad) = _
  rw [hc]
  show pick (true && (xs.all (lentV 5) && true)) (Ev.R.ok (.ref ((Cell.tab 0 :: R).length + (1 - 1))) ([Cell.tab 0] ++ (R ++ [.lst xs]))) Ev.R.bad = _
  rw [hx]
  rfl
theorem all_ints (k : Nat) (l : List Int) : (l.map AV.int).all (lentV (k + 1)) = true := by
  rw [List.all_eq_true]
  intro x hx
  obtain ⟨z, _, rfl⟩ := List.mem_map.mp hx
  rfl
theorem all_nats (k : Nat) (l : List Nat) : (l.map nI).all (lentV (k + 1)) = true := by
  rw [List.all_eq_true]
  intro x hx
  obtain ⟨z, _, rfl⟩ := List.mem_map.mp hx
  rfl
theorem all_avQ (k : Nat) (l : List (Nat × Nat)) : (l.map avQ).all (lentV (k + 2)) = true := by
  rw [List.all_eq_true]
  intro x hx
  obtain ⟨z, _, rfl⟩ := List.mem_map.mp hx
  rfl
theorem len_sft (k : Nat) (r : List Int) (w : List Nat) (c : Nat) : lentV (k + 3) (sft r w c) = true := by
  show (true && ((r.map AV.int).all (lentV (k + 1)) && ((w.map nI).all (lentV (k + 1)) && true))) = true
  rw [all_ints, all_nats]
  rfl
theorem lnb_sft (m : Nat) (r : List Int) (w : List Nat) (c : Nat) : lndB 1 m (sft r w c) = some (sft r w c) := by
  show pick (lentV 5 (sft r w c)) _ _ = _
  rw [len_sft 2]
  rfl
theorem lnb_blt (m : Nat) (s : Bu) : lndB 1 m (blt s) = some (blt s) := by
  show pick (true && (true && ((s.1.map AV.int).all (lentV 3) && ((s.2.1.map avQ).all (lentV 3) && true)))) _ _ = _
  rw [all_ints, all_avQ]
  rfl
theorem lnb_pr (m : Nat) (z : Int) (r : List Int) (w : List Nat) (c : Nat) : lndB 1 m (.tup [.int z, sft r w c]) = some (.tup [.int z, sft r w c]) := by
  show pick (true && (lentV 4 (sft r w c) && true)) _ _ = _
  rw [len_sft 1]
  rfl
/-- the lists behind P -/
theorem gp {P l : Hs} (j : Nat) : (P ++ l)[P.length + j]? = l[j]? := by
  rw [List.getElem?_append_right (by omega)]
  congr 1; omega
theorem gp0 {P l : Hs} : (P ++ l)[P.length]? = l[0]? := gp 0
theorem sp {P l : Hs} (j : Nat) (c : Cell) : (P ++ l).set (P.length + j) c = P ++ l.set j c := by
  rw [List.set_append_right _ _ (by omega)]
  congr 2; omega
end Ev.k09
namespace Ev.k09
open PySem PySem.Spec PyProof.Rows L2 Ev
section
variable {α β : Type} [DecidableEq α] [DecidableEq β]
/-- a list of two kinds -/
def eLL (E : Enc α) (E2 : Enc β) : Enc (α × β) := ⟨fun p => .lst [E.av p.1, E2.av p.2], fun p => .list [E.dd p.1, E2.dd p.2], max E.dep E2.dep + 1, fun n A x hn => by
    obtain ⟨m, rfl⟩ : ∃ m, n = m + 1 := ⟨n - 1, by omega⟩
    show (optAll (dat m A) [E.av x.1, E2.av x.2]).map PyData.list = _
    simp only [optAll]
    rw [E.h m A x.1 (by omega), E2.h m A x.2 (by omega)]
    rfl, fun x y => by
      rw [PyData.eqv, PyData.eqvAll, PyData.eqvAll, PyData.eqvAll, E.eqv, E2.eqv, Bool.eq_iff_iff]
      simp [Prod.ext_iff], fun _ => rfl, fun _ _ => rfl⟩
theorem ne_self {α : Type} [DecidableEq α] (E : Enc α) (hd : E.dep ≤ 40) {call : CallT} {mt : Nat → Option Nat} {a b : CE} {e : En} {A A1 A2 : Hs} (x : α) (ha : a e A = .ok (E.av x) A1) (hb : b e A1 = .ok (E.av x) A2) : cBin (vNeO call mt) a b e A = .ok (.bl false) A2 := (bin_ok ha hb).trans ((neO_enc E hd call mt x x A2).trans (by rw [decide_eq_true rfl]; rfl))
end
theorem lstU_at {A : Hs} {i : Nat} {xs : List AV} (h : A[i]? = some (.lst xs)) (hx : allF xs = true) (call : CallT) (ix mt : Nat → Option Nat) : vListU call ix mt (.ref i) A = .ok (.lst xs) A := by
  unfold vListU
  rw [ins_at h]
  dsimp only
  unfold vList
  rw [seq_at h]
  dsimp only
  rw [hx]
  rfl
/-- with lists that are cells -/
theorem sft_new_c (n : Nat) {A : Hs} {i j : Nat} {row : List Int} {way : List Nat} (L : okA A = true) (hi : A[i]? = some (.lst (row.map .int))) (hj : A[j]? = some (.lst (way.map nI))) (c : Nat) {a : CA} {e : En} {B : Hs} (ha : a e B = .ok [.ref i, .ref j, nI c] A) : cNew (callF F (n + 1)) 6 40 false [] a e B = .ok (sft row way c) A := by
  have gi : ∀ {i : Nat} {x : Cell} (z : Cell), A[i]? = some x → (A ++ [z])[i]? = some x := fun z h => by rw [List.getElem?_append_left (List.getElem?_eq_some_iff.mp h).1]; exact h
  have f1 : sFldS (tb W.cl fx_row) (cVar 0) (cUn vTuple (cVar 1)) ([.ref A.length, .ref i, .ref j, nI c] : En) (A ++ [.ins 6 []]) = .nx [.ref A.length, .ref i, .ref j, nI c] (A ++ [.ins 6 [.und, avT row]]) := by
    refine (fldS_ok ((un_ok (var_ok rfl (by intro z; cases z))).trans (tup_at (gi _ hi) (allI _))) rfl get_app w_row).trans ?_
    rw [set_app]
    rfl
  have f2 : sFldS (tb W.cl fx_way) (cVar 0) (cUn vTuple (cVar 2)) ([.ref A.length, .ref i, .ref j, nI c] : En) (A ++ [.ins 6 [.und, avT row]]) = .nx [.ref A.length, .ref i, .ref j, nI c] (A ++ [.ins 6 [.und, avT row, .tup (way.map nI)]]) := by
    refine (fldS_ok ((un_ok (var_ok rfl (by intro z; cases z))).trans (tup_at (gi _ hj) (allN _))) rfl get_app w_way).trans ?_
    rw [set_app]
    rfl
  have h3 : callF F (n + 1) 40 [.ref A.length, .ref i, .ref j, nI c] (A ++ [.ins 6 []]) = .ok .non (A ++ [.ins 6 [nI c, avT row, .tup (way.map nI)]]) := by
    refine call_nxS (f := 40) (e := [.ref A.length, .ref i, .ref j, nI c]) rfl rfl ((seq_nx f1).trans ((seq_nx f2).trans ?_)) (by simp)
    refine (fldS_ok (y := nI c) rfl rfl get_app w_looks).trans ?_
    rw [set_app]
    rfl
  unfold cNew cArgs
  rw [ha]
  dsimp only [RA.bind]
  unfold vNew
  rw [List.append_nil, h3]
  exact fin1_O L rfl
theorem blt_new_c (n : Nat) {A : Hs} {i j : Nat} (s : Bu) (L : okA A = true) (hi : A[i]? = some (.lst (s.1.map .int))) (hj : A[j]? = some (.lst (s.2.1.map avQ))) {a : CA} {e : En} {B : Hs} (ha : a e B = .ok [.ref i, .ref j, nI s.2.2.1, nI s.2.2.2] A) : cNew (callF F (n + 1)) 11 69 false [] a e B = .ok (blt s) A := by
  have gi : ∀ {i : Nat} {x : Cell} (z : Cell), A[i]? = some x → (A ++ [z])[i]? = some x := fun z h => by rw [List.getElem?_append_left (List.getElem?_eq_some_iff.mp h).1]; exact h
  have f1 : sFldS (tb W.cl fx_row) (cVar 0) (cUn vTuple (cVar 1)) ([.ref A.length, .ref i, .ref j, nI s.2.2.1, nI s.2.2.2] : En) (A ++ [.ins 11 []]) = .nx [.ref A.length, .ref i, .ref j, nI s.2.2.1, nI s.2.2.2] (A ++ [.ins 11 [.und, .und, avT s.1]]) := by
    refine (fldS_ok ((un_ok (var_ok rfl (by intro z; cases z))).trans (tup_at (gi _ hi) (allI _))) rfl get_app wb_row).trans ?_
    rw [set_app]
    rfl
  have f2 : sFldS (tb W.cl fx_stops) (cVar 0) (cUn vTuple (cVar 2)) ([.ref A.length, .ref i, .ref j, nI s.2.2.1, nI s.2.2.2] : En) (A ++ [.ins 11 [.und, .und, avT s.1]]) = .nx [.ref A.length, .ref i, .ref j, nI s.2.2.1, nI s.2.2.2] (A ++ [.ins 11 [.und, .und, avT s.1, .tup (s.2.1.map avQ)]]) := by
    refine (fldS_ok ((un_ok (var_ok rfl (by intro z; cases z))).trans (tup_at (gi _ hj) (allQ _))) rfl get_app wb_stops).trans ?_
    rw [set_app]
    rfl
  have f3 : sFldS (tb W.cl fx_changes) (cVar 0) (cVar 3) ([.ref A.length, .ref i, .ref j, nI s.2.2.1, nI s.2.2.2] : En) (A ++ [.ins 11 [.und, .und, avT s.1, .tup (s.2.1.map avQ)]]) = .nx [.ref A.length, .ref i, .ref j, nI s.2.2.1, nI s.2.2.2] (A ++ [.ins 11 [nI s.2.2.1, .und, avT s.1, .tup (s.2.1.map avQ)]]) := by
    refine (fldS_ok (y := nI s.2.2.1) rfl rfl get_app wb_changes).trans ?_
    rw [set_app]
    rfl
  have h4 : callF F (n + 1) 69 [.ref A.length, .ref i, .ref j, nI s.2.2.1, nI s.2.2.2] (A ++ [.ins 11 []]) = .ok .non (A ++ [.ins 11 [nI s.2.2.1, nI s.2.2.2, avT s.1, .tup (s.2.1.map avQ)]]) := by
    refine call_nxS (f := 69) (e := [.ref A.length, .ref i, .ref j, nI s.2.2.1, nI s.2.2.2]) rfl rfl ((seq_nx f1).trans ((seq_nx f2).trans ((seq_nx f3).trans ?_))) (by simp)
    refine (fldS_ok (y := nI s.2.2.2) rfl rfl get_app wb_looks).trans ?_
    rw [set_app]
    rfl
  unfold cNew cArgs
  rw [ha]
  dsimp only [RA.bind]
  unfold vNew
  rw [List.append_nil, h4]
  exact fin1_O L rfl
end Ev.k09
namespace Ev.k09
open PySem PySem.Spec PyProof.Rows L2 Ev
def bdT : CS := sSeq (sPar [16, 17, 18] (aCons (cUn (vListUM (callF F 19) (tmi W itx) (tm W mx___len__)) (cFld (tb W.cl fx_row) (cVar 9))) (aCons (cUn (vListUM (callF F 19) (tmi W itx) (tm W mx___len__)) (cFld (tb W.cl fx_way) (cVar 9))) (aCons (cUn (vListUM (callF F 19) (tmi W itx) (tm W mx___len__)) (cFld (tb W.cl fx_stops) (cVar 11))) aNil))))
    (sSeq (sPar [19, 20] (aCons (cNew (callF F 19) 6 40 false [] (aCons (cVar 16) (aCons (cVar 17) (aCons (cFld (tb W.cl fx_looks) (cVar 9)) aNil)))) (aCons (cNew (callF F 19) 11 69 false [] (aCons (cVar 16) (aCons (cVar 18) (aCons (cFld (tb W.cl fx_changes) (cVar 11)) (aCons (cFld (tb W.cl fx_looks) (cVar 11)) aNil))))) aNil)))
    (sSeq (sForI (iOwn (tmi W itx) (cTup (aCons (cVar 4) (aCons (cVar 12) (aCons (cVar 16) (aCons (cVar 17) (aCons (cVar 18) aNil))))))) (gN 21) (sExpr (cML vClear (cVar 21) aNil)) 100000)
    (sSeq (sIf (cBin (vNeO (callF F 19) (tm W mx___eq__)) (cVar 19) (cVar 9)) (sRet (cC (.bl false))) sNil)
    (sSeq (sIf (cBin (vNeO (callF F 19) (tm W mx___eq__)) (cVar 20) (cNew (callF F 19) 11 69 false [] (aCons (cFld (tb W.cl fx_row) (cVar 9)) (aCons (cFld (tb W.cl fx_stops) (cVar 11)) (aCons (cFld (tb W.cl fx_changes) (cVar 11)) (aCons (cFld (tb W.cl fx_looks) (cVar 11)) aNil)))))) (sRet (cC (.bl false))) sNil)
    (sSeq (sIf (cBin (vNeO (callF F 19) (tm W mx___eq__)) (cLst (aCons (cFld (tb W.cl fx_row) (cVar 9)) (aCons (cFld (tb W.cl fx_row) (cVar 10)) (aCons (cFld (tb W.cl fx_row) (cVar 11)) (aCons (cFld (tb W.cl fx_row) (cVar 14)) aNil))))) (cVar 15)) (sRet (cC (.bl false))) sNil)
    (sSeq (sIf (cBin (vNeO (callF F 19) (tm W mx___eq__)) (cUn vSorted (cBin vAdd (cLst (aCons (cVar 13) aNil)) (cUn (vListU (callF F 19) (tmi W itx) (tm W mx___len__)) (cFld (tb W.cl fx_row) (cVar 14))))) (cUn vSorted (cVar 5))) (sRet (cC (.bl false))) sNil)
    (sIf (cAnd (cBin vLt (cUn (vLenO (callF F 19) (tm W mx___len__)) (cBin (vIxO (callF F 19) (tm W mx___getitem__)) (cVar 15) (cC (.int 2)))) (cC (.int 12))) (cBin (vNeO (callF F 19) (tm W mx___eq__)) (cUn (vLenO (callF F 19) (tm W mx___len__)) (cFld (tb W.cl fx_row) (cCall (lnd 1 (callF F 19)) 61 [] (aApp (aCons (cBin (vIxO (callF F 19) (tm W mx___getitem__)) (cVar 15) (cC (.int 2))) (aCons (cC (.int 5)) aNil)) (aCons (cVar 3) aNil))))) (cBin vAdd (cUn (vLenO (callF F 19) (tm W mx___len__)) (cVar 5)) (cC (.int 1))))) (sRet (cC (.bl false))) sNil)))))))
theorem okA_set {A : Hs} {i : Nat} (h : okA A = true) : okA (A.set i (.lst [])) = true := by
  unfold okA at *
  rw [List.length_set, List.all_eq_true]
  intro c hc
  rcases List.mem_or_eq_of_mem_set hc with q | q
  · exact List.all_eq_true.mp h c q
  · subst q; rfl
theorem all_set {A : Hs} {i : Nat} (h : A.all lstC = true) : (A.set i (.lst [])).all lstC = true := by
  rw [List.all_eq_true]
  intro c hc
  rcases List.mem_or_eq_of_mem_set hc with q | q
  · exact List.all_eq_true.mp h c q
  · subst q; rfl
theorem lstUM_t {xs : List AV} (call : CallT) (ix mt : Nat → Option Nat) (A : Hs) : vListUM call ix mt (.tup xs) A = .ok (.ref A.length) (A ++ [.lst xs]) := rfl
theorem rest_ok {ns : List Int} {k1 : Int} {w p m : Nat} {kv : List Int} {S : Bu} {T : List Int × List Nat × Nat} {ur dr' : List Int} {uw dw : List Nat} {uc dc : Nat} {j z6 z7 z8 z16 z17 z18 z19 z20 z21 : AV} {A4 : Hs} {c0 : Int}
    (L5 : LA (A4 ++ [.lst (S.1.map .int)])) (hA : ∃ B, A4 = .tab 0 :: dr ns k1 :: B) (hp : 2 ≤ p) (gk : A4[p]? = some (.lst (kv.map .int))) (h1 : 1 ≤ w) (h4 : w ≤ 4) (hr : Row kv) (hpos : 0 < kv.length) (hbp : S.1.Perm kv) (hbh : Hp w 0 S.1) (htp : (c0 :: T.1).Perm S.1) :
    Wp (bdT [.scr (ns.map .int), .ref 1, j, nI w, .ref p, .lst (kv.map .int), z6, z7, z8, sft ur uw uc, sft dr' dw dc, blt S, .ref A4.length, .int c0, sfR T, .lst [avT ur, avT dr', avT S.1, avT T.1], z16, z17, z18, z19, z20, z21] (A4 ++ [.lst (S.1.map .int)]))
      (fun e A => ∃ (B : Hs) (z2 z3 z4 z5 z6 z7 z8 z9 z10 z11 z12 z13 z14 z15 z16 z17 z18 z19 z20 z21 : AV), e = [.scr (ns.map .int), .ref 1, z2, z3, z4, z5, z6, z7, z8, z9, z10, z11, z12, z13, z14, z15, z16, z17, z18, z19, z20, z21] ∧ A = .tab 0 :: dr ns k1 :: B ∧ LA A) (fun _ _ => False) (fun _ _ => False) := by
  have nu : ∀ {i : Nat}, AV.ref i ≠ .und := fun {i} z => by cases z
  have nl : ∀ {xs : List AV}, AV.lst xs ≠ .und := fun {xs} z => by cases z
  have wr : ∀ {e : En} {A : Hs} {i : Nat} {r : List Int} {y : List Nat} {c : Nat}, e[i]? = some (sft r y c) → cFld (tb W.cl fx_row) (cVar i) e A = .ok (avT r) A := fun {e A i r y c} he => (un_ok (var_ok he (by intro z; cases z))).trans rfl
  have ww : ∀ {e : En} {A : Hs} {i : Nat} {r : List Int} {y : List Nat} {c : Nat}, e[i]? = some (sft r y c) → cFld (tb W.cl fx_way) (cVar i) e A = .ok (.tup (y.map nI)) A := fun {e A i r y c} he => (un_ok (var_ok he (by intro z; cases z))).trans rfl
  have wl : ∀ {e : En} {A : Hs} {i : Nat} {r : List Int} {y : List Nat} {c : Nat}, e[i]? = some (sft r y c) → cFld (tb W.cl fx_looks) (cVar i) e A = .ok (nI c) A := fun {e A i r y c} he => (un_ok (var_ok he (by intro z; cases z))).trans rfl
  have sqbt : Sq (avT S.1) S.1 := .inl rfl
  have squt : Sq (avT ur) ur := .inl rfl
  have sqTt : Sq (avT T.1) T.1 := .inl rfl
  have hl12 := hr.l
  have hbl : S.1.length = kv.length := hbp.length_eq
  have hTl : T.1.length + 1 = kv.length := by rw [← hbl, ← htp.length_eq]; rfl
  unfold bdT
  have L6 : LA (A4 ++ [.lst (S.1.map .int), .lst (ur.map .int)]) := by
    have := L5.app (xs := ur.map .int) (allI _)
    rw [List.append_assoc] at this
    exact this
  have L7 : LA (A4 ++ [.lst (S.1.map .int), .lst (ur.map .int), .lst (uw.map nI)]) := by
    have := L6.app (xs := uw.map nI) (allN _)
    rw [List.append_assoc] at this
    exact this
  have L8 : LA (A4 ++ [.lst (S.1.map .int), .lst (ur.map .int), .lst (uw.map nI), .lst (S.2.1.map avQ)]) := by
    have := L7.app (xs := S.2.1.map avQ) (allQ _)
    rw [List.append_assoc] at this
    exact this
  refine wp_seq (wp_p3 (u := .ref (A4.length + 1)) (v := .ref (A4.length + 2)) (w := .ref (A4.length + 3)) (A1 := A4 ++ [.lst (S.1.map .int), .lst (ur.map .int), .lst (uw.map nI), .lst (S.2.1.map avQ)]) ?_ rfl ?_)
  · have e1 : (A4 ++ [Cell.lst (S.1.map .int)]).length = A4.length + 1 := by simp
    have e2 : (A4 ++ [Cell.lst (S.1.map .int), .lst (ur.map .int)]).length = A4.length + 2 := by simp
    have e3 : (A4 ++ [Cell.lst (S.1.map .int), .lst (ur.map .int), .lst (uw.map nI)]).length = A4.length + 3 := by simp
    refine acons_ok (A' := A4 ++ [.lst (S.1.map .int), .lst (ur.map .int)]) ((un_ok (wr rfl)).trans ((vListUM_sq squt _ _ _ _).trans (by rw [e1, List.append_assoc]; rfl))) ?_
    refine acons_ok (A' := A4 ++ [.lst (S.1.map .int), .lst (ur.map .int), .lst (uw.map nI)]) ((un_ok (ww rfl)).trans ((lstUM_t _ _ _ _).trans (by rw [e2, List.append_assoc]; rfl))) ?_
    exact acons_ok ((un_ok (b_stops S rfl)).trans ((lstUM_t _ _ _ _).trans (by rw [e3, List.append_assoc]; rfl))) anil_ok
  refine wp_seq (wp_p2 (u := sft ur uw uc) (v := blt (ur, S.2)) (A1 := A4 ++ [.lst (S.1.map .int), .lst (ur.map .int), .lst (uw.map nI), .lst (S.2.1.map avQ)]) ?_ rfl ?_)
  · refine acons_ok (sft_new_c 18 L8.ok (gp 1) (gp 2) uc (acons_ok (var_ok rfl nu) (acons_ok (var_ok rfl nu) (acons_ok (wl rfl) anil_ok)))) (acons_ok ?_ anil_ok)
    exact blt_new_c 18 (ur, S.2) L8.ok (gp 1) (gp 3) (acons_ok (var_ok rfl nu) (acons_ok (var_ok rfl nu) (acons_ok (b_changes S rfl) (acons_ok (b_looks S rfl) anil_ok))))
  generalize hA8 : (A4 ++ [.lst (S.1.map .int), .lst (ur.map .int), .lst (uw.map nI), .lst (S.2.1.map avQ)] : Hs) = A8 at *
  refine wp_seq ?_
  refine wp_for AV.ref [p, A4.length, A4.length + 1, A4.length + 2, A4.length + 3] (fun r e A => (∃ z, e = [.scr (ns.map .int), .ref 1, j, nI w, .ref p, .lst (kv.map .int), z6, z7, z8, sft ur uw uc, sft dr' dw dc, blt S, .ref A4.length, .int c0, sfR T, .lst [avT ur, avT dr', avT S.1, avT T.1], .ref (A4.length + 1), .ref (A4.length + 2), .ref (A4.length + 3), sft ur uw uc, blt (ur, S.2), z]) ∧ (∃ B, A = .tab 0 :: dr ns k1 :: B) ∧ LA A ∧ ∀ i ∈ r, 2 ≤ i ∧ ∃ xs, A[i]? = some (.lst xs)) (.tup ([p, A4.length, A4.length + 1, A4.length + 2, A4.length + 3].map .ref)) (A1 := A8) ?_ (fun A k => rfl) (by show 5 < 100000; decide) ?_ ?_ ?_
  · rfl
  · obtain ⟨B, hB⟩ := hA
    refine ⟨⟨_, rfl⟩, ⟨B ++ [.lst (S.1.map .int), .lst (ur.map .int), .lst (uw.map nI), .lst (S.2.1.map avQ)], by rw [← hA8, hB]; rfl⟩, L8, fun i hi => ?_⟩
    have hl4 : 2 ≤ A4.length := by rw [hB]; simp
    rw [← hA8]
    simp only [List.mem_cons, List.not_mem_nil, or_false] at hi
    rcases hi with rfl | rfl | rfl | rfl | rfl
    · exact ⟨hp, _, by rw [List.getElem?_append_left (List.getElem?_eq_some_iff.mp gk).1]; exact gk⟩
    · exact ⟨hl4, _, gp0⟩
    · exact ⟨by omega, _, gp 1⟩
    · exact ⟨by omega, _, gp 2⟩
    · exact ⟨by omega, _, gp 3⟩
  · rintro i r e A ⟨⟨z, rfl⟩, ⟨B, hB⟩, L, hi⟩
    obtain ⟨h2, xs, hx⟩ := hi i (by simp)
    refine ⟨_, rfl, wp_expr (v := .non) (A1 := A.set i (.lst [])) (w_clear (i := i) (x0 := xs) (var_ok rfl nu) hx rfl) ⟨⟨_, rfl⟩, ?_, ?_, fun i' hi' => ?_⟩⟩
    · obtain ⟨i, rfl⟩ : ∃ q, i = q + 2 := ⟨i - 2, by omega⟩
      exact ⟨B.set i (.lst []), by rw [hB]; rfl⟩
    · obtain ⟨R, hR, hR2⟩ := L.ex
      obtain ⟨i, rfl⟩ : ∃ q, i = q + 1 := ⟨i - 1, by omega⟩
      exact ⟨⟨R.set i (.lst []), by rw [hR]; rfl, all_set hR2⟩, okA_set L.ok⟩
    · obtain ⟨h3, ys, hy⟩ := hi i' (by simp [hi'])
      refine ⟨h3, ?_⟩
      by_cases e : i = i'
      · subst e
        exact ⟨[], by rw [List.getElem?_set_self (List.getElem?_eq_some_iff.mp hx).1]⟩
      · exact ⟨ys, by rw [List.getElem?_set_ne e]; exact hy⟩
  rintro e A ⟨⟨z, rfl⟩, ⟨B, hB⟩, L, -⟩
  refine wp_seq (wp_if (k := false) (A1 := A) ?_ (sel_fP rfl (wp_nil ?_)))
  · refine w_bin (x := sft ur uw uc) (y := sft ur uw uc) (A1 := A) (A2 := A) rfl rfl ((vne_s 18 _ _ _ _ _ _ A).trans ?_)
    rw [decide_eq_true rfl]
    rfl
  refine wp_seq (wp_if (k := false) (A1 := A) ?_ (sel_fP rfl (wp_nil ?_)))
  · refine w_bin (x := blt (ur, S.2)) (y := blt (ur, S.2)) (A1 := A) (A2 := A) rfl (nblt_ok 18 (ur, S.2) L.ok (wr rfl) (b_stops S rfl) (b_changes S rfl) (b_looks S rfl)) ((vne_b 17 _ _ A L.ok).trans ?_)
    rw [decide_eq_true rfl]
    rfl
  refine wp_seq (wp_if (k := false) (A1 := A) ?_ (sel_fP rfl (wp_nil ?_)))
  · exact ne_self (eL (eT eI)) (by decide) [ur, dr', S.1, T.1] (w_lst (acons_ok (wr rfl) (acons_ok (wr rfl) (acons_ok (b_row S rfl) (acons_ok (wr rfl) anil_ok)))) (Nat.le_of_ble_eq_true rfl) rfl) (var_ok rfl nl)
  refine wp_seq (wp_if (k := false) (A1 := A) ?_ (sel_fP rfl (wp_nil ?_)))
  · refine ne_self (A1 := A) (eL eI) (by decide) (srtB iLe kv) ?_ ?_
    · refine w_un (w_bin (x := .lst ([c0].map .int)) (A1 := A) (w_lst (acons_ok (var_ok rfl (by intro z; cases z)) anil_ok) (Nat.le_of_ble_eq_true rfl) rfl) ((un_ok (wr rfl)).trans (sq_lstU sqTt _ _ _ _)) (add_l A (by simp; omega))) ((sorted_ok (.inr rfl) A).trans ?_)
      rw [show srtB iLe ([c0] ++ T.1) = srtB iLe kv from srt_perm (htp.trans hbp)]
      rfl
    · exact (un_ok (var_ok rfl nl)).trans (sorted_ok (.inr rfl) A)
  refine wp_if (k := false) (A1 := A) ?_ (sel_fP rfl (wp_nil ⟨B, _, _, _, _, _, _, _, _, _, _, _, _, _, _, _, _, _, _, _, _, rfl, hB, L⟩))
  have hix : ∀ {call : CallT} {mt : Nat → Option Nat}, cBin (vIxO call mt) (cVar 15) (cC (.int 2)) [.scr (ns.map .int), .ref 1, j, nI w, .ref p, .lst (kv.map .int), z6, z7, z8, sft ur uw uc, sft dr' dw dc, blt S, .ref A4.length, .int c0, sfR T, .lst [avT ur, avT dr', avT S.1, avT T.1], .ref (A4.length + 1), .ref (A4.length + 2), .ref (A4.length + 3), sft ur uw uc, blt (ur, S.2), z] A = .ok (avT S.1) A := fun {call mt} => rfl
  refine w_and (k := decide (kv.length < 12)) (A1 := A) ?_ ?_
  · refine w_bin (x := .int kv.length) (y := .int 12) (A1 := A) (A2 := A) (w_un hix ((sqbt.len A).trans (by rw [hbl]))) rfl ?_
    show R.ok (.bl (decide ((kv.length : Int) < 12))) A = _
    congr 2
    rw [decide_eq_decide]
    omega
  · by_cases h12 : kv.length < 12
    · rw [decide_eq_true h12]
      show cBin _ _ _ _ _ = _
      have hbr : Row S.1 := hr.perm hbp
      have q61 := push_ok 11 sqbt hbr (by omega) h1 h4 (hp_ok hbh) (key := 5) (by omega) (by omega) [.tab 0] rfl
      rw [upS_eq (by simp)] at q61
      have hpl : (lupN w 20 (S.1 ++ [5]) S.1.length).1.length = kv.length + 1 := by
        rw [(lup_perm 20 S.1.length (S.1 ++ [5]) (by simp)).length_eq]
        simp; omega
      generalize lupN w 20 (S.1 ++ [5]) S.1.length = V at *
      have f61 : lnd 1 (callF F 19) 61 [avT S.1, .int 5, nI w] A = .ok (sft V.1 V.2.1 V.2.2) A := lnd_v (us' := [avT S.1, .int 5, nI w]) L rfl q61 (lnb_sft _ _ _ _)
      refine w_bin (x := .int (kv.length + 1)) (y := .int (kv.length + 1)) (A1 := A) (A2 := A) ?_ ?_ ?_
      · refine w_un (x := avT V.1) (w_fld (w_call0 (xs := [avT S.1, .int 5, nI w]) (w_app (acons_ok hix (acons_ok rfl anil_ok)) (acons_ok (var_ok rfl (by intro z; cases z)) anil_ok) rfl) f61) rfl) ((Sq.len (ns := V.1) (.inl rfl) A).trans ?_)
        rw [hpl]
        rfl
      · refine w_bin (x := .int kv.length) (y := .int 1) (A1 := A) (A2 := A) ((un_ok (var_ok rfl nl)).trans ?_) rfl rfl
        exact Sq.len (.inr rfl) A
      · refine (ne_ii _ _ _).trans ?_
        rw [decide_eq_true rfl]
        rfl
    · rw [decide_eq_false h12]
      rfl
end Ev.k09
namespace Ev.k09
open PySem PySem.Spec PyProof.Rows L2 Ev
theorem addM_l {r l : List Int} (P : Hs) (h : r.length + l.length ≤ 1000) : vAddM (.lst (r.map .int)) (.lst (l.map .int)) P = .ok (.ref P.length) (P ++ [.lst ((r ++ l).map .int)]) := by
  unfold vAddM
  rw [show lstOf P (.lst (r.map .int)) = some (r.map .int) from rfl]
  dsimp only
  unfold vCatM
  rw [show lstOf P (.lst (r.map .int)) = some (r.map .int) from rfl, show lstOf P (.lst (l.map .int)) = some (l.map .int) from rfl]
  dsimp only
  rw [← List.map_append, show line ((r.map AV.int).length + (l.map AV.int).length) = true by rw [List.length_map, List.length_map]; exact Nat.ble_eq_true_of_le (by omega)]
  rfl
theorem flat_len {α β : Type} {f : α → List β} {c : Nat} : ∀ {l : List α}, (∀ x ∈ l, (f x).length ≤ c) → (l.flatMap f).length ≤ l.length * c
  | [], _ => by simp
  | x :: r, h => by
    rw [List.flatMap_cons, List.length_append, List.length_cons, Nat.succ_mul]
    have := h x (by simp)
    have := flat_len (f := f) (c := c) (l := r) fun y hy => h y (List.mem_cons_of_mem _ hy)
    omega
theorem falls_len {ks : List Int} {w : Nat} (h : ks.length ≤ 12) : (fallsN ks w).length ≤ 1000 := by
  unfold fallsN
  have := flat_len (f := fun p => ((subN ks.length w p).filter (fallB ks p)).map fun o => (p, o)) (c := 12) (l := List.range ks.length) fun p _ => by
    rw [List.length_map]
    exact Nat.le_trans (List.length_filter_le _ _) (Nat.le_trans (subN_len _ _ _) h)
  rw [List.length_range] at this
  omega
theorem pure_law (ns : List Int) (h : ns.length ≤ 63) : ∃ A', callF F 20 99 [.scr (ns.map .int)] [.tab 0] = .ok (.bl true) A' := by
  refine call_wpE (f := 99) (n := 19) (P := fun r => ∃ A', r = .ok (.bl true) A') rfl rfl ?_
  unfold c_law_8
  dsimp only [List.set, List.append, List.nil_append, List.cons_append, List.replicate, Nat.reduceSub, List.length_cons, List.length_nil, Nat.reduceAdd]
  (repeat infer_instance)
  refine wp_for AV.int (rgI 0 4) (fun r e A => ∃ (k : Int) (B : Hs) (z2 z3 z4 z5 z6 z7 z8 z9 z10 z11 z12 z13 z14 z15 z16 z17 z18 z19 z20 z21 : AV), e = [.scr (ns.map .int), .ref 1, z2, z3, z4, z5, z6, z7, z8, z9, z10, z11, z12, z13, z14, z15, z16, z17, z18, z19, z20, z21] ∧ A = .tab 0 :: dr ns k :: B ∧ LA (.tab 0 :: dr ns k :: B)) (.rng 0 ((4 : Int) - 0).toNat) (A1 := [.tab 0, dr ns 0]) ?_ (fun A k => at_rngI A k) (by decide) ⟨0, [], .und, .und, .und, .und, .und, .und, .und, .und, .und, .und, .und, .und, .und, .und, .und, .und, .und, .und, .und, .und, rfl, rfl, ⟨⟨_, rfl, rfl⟩, rfl⟩⟩ ?_ ?_
  · exact irg_ok (by (repeat infer_instance)) (by (repeat infer_instance)) (by omega) (by omega) (by omega) (by omega)
  · rintro j r e A ⟨k, B, z2, z3, z4, z5, z6, z7, z8, z9, z10, z11, z12, z13, z14, z15, z16, z17, z18, z19, z20, z21, rfl, rfl, hB⟩
    have okD : ∀ k', okA (.tab 0 :: dr ns k' :: B) = true := fun k' => hB.ok
    obtain ⟨w, h1, h4, hw⟩ := arms_okB 15 ns h k B
    obtain ⟨ks, k1, hkl, hkb, hks⟩ := keys_okB 16 ns h (k + 1) 11 9 (by omega) (by omega) (by omega) B (okD _)
    obtain ⟨c, c0, c1, hc⟩ := take_ok 17 ns h k1 9 (by omega) B
    have L0 : LA (.tab 0 :: dr ns (k1 + 1) :: B) := by
      obtain ⟨R, e, hR⟩ := hB.ex
      cases e
      exact ⟨⟨_, rfl, hR⟩, hB.ok⟩
    generalize hP : (.tab 0 :: dr ns (k1 + 1) :: B : Hs) = P at *
    have hPl : P.length = B.length + 2 := by rw [← hP]; rfl
    have hadd := addM_l (r := ks) (l := [c]) P (by simp; omega)
    have hr : Row (ks ++ [c]) := ⟨by simp; omega, fun x hx => by
      rcases List.mem_append.mp hx with hx | hx
      · have := hkb x hx; omega
      · rw [List.mem_singleton] at hx; subst hx; omega⟩
    have hl12 := hr.l
    have hlp : 0 < (ks ++ [c]).length := by simp
    generalize hkv : ks ++ [c] = kv at *
    have sq : Sq (.lst (kv.map .int)) kv := .inr rfl
    -- what is told
    have t0 : okA [.tab 0] = true := rfl
    have q32 := falls_o 12 sq hr h1 h4 [.tab 0] t0
    have q31 := faults_o 13 sq hr h1 h4 [.tab 0] t0
    have q48 := sift_up_ok 12 sq hr h1 h4 [.tab 0] t0 (p := kv.length - 1) (by omega)
    have q49 := sift_down_ok 12 sq hr h1 h4 [.tab 0] t0 rfl (p := 0) hlp
    have q74 := build_ok 11 sq hr h1 h4 [.tab 0] t0 rfl
    have hbp := bld_perm w kv
    have hbh : Hp w 0 (bldN w kv).1 := bld_heap h1 hl12
    have hbr : Row (bldN w kv).1 := hr.perm hbp
    have hbl : (bldN w kv).1.length = kv.length := hbp.length_eq
    have sqb : Sq (.lst ((bldN w kv).1.map .int)) (bldN w kv).1 := .inr rfl
    have sqbt : Sq (avT (bldN w kv).1) (bldN w kv).1 := .inl rfl
    have q62 := take_ok' 11 sqb hbr (by omega) h1 h4 (hp_ok hbh) [.tab 0] t0 rfl
    have htp := tk_perm (w := w) (ks := (bldN w kv).1) (by omega)
    have c0n : ∀ {x y : Nat}, 0 < x + 2 := fun {x y} => by omega
    have hP0 : 0 < P.length := by omega
    generalize hF : fallsN kv w = Fs at *
    generalize hf : faultN kv w = fs at *
    -- first, second
    have L1 : LA (P ++ [.lst (kv.map .int)]) := L0.app (allI _)
    have lend1 : ∀ (l : Hs), optAll (lendV 1 (P ++ (.lst (kv.map .int) :: l))) [.ref P.length, nI w] = some [.lst (kv.map .int), nI w] := fun l => by
      unfold optAll
      rw [lend_at hP0 gp0 (allI _)]
      rfl
    have f32 : ∀ l, LA (P ++ (.lst (kv.map .int) :: l)) → lnd 1 (callF F 19) 32 [.ref P.length, nI w] (P ++ (.lst (kv.map .int) :: l)) = .ok (.ref (P ++ (.lst (kv.map .int) :: l)).length) (P ++ (.lst (kv.map .int) :: l) ++ [.lst (Fs.map avQ)]) := fun l L => lnd_l L (lend1 l) q32 (all_avQ _ _)
    have f31 : ∀ l, LA (P ++ (.lst (kv.map .int) :: l)) → lnd 1 (callF F 19) 31 [.ref P.length, nI w] (P ++ (.lst (kv.map .int) :: l)) = .ok (.ref (P ++ (.lst (kv.map .int) :: l)).length) (P ++ (.lst (kv.map .int) :: l) ++ [.lst (fs.map nI)]) := fun l L => lnd_l L (lend1 l) q31 (all_nats _ _)
    refine ⟨_, rfl, ?_⟩
    refine wp_seq (wp_p2 (u := nI w) (v := .ref P.length) (A1 := P ++ [.lst (kv.map .int)]) ?_ rfl ?_)
    · refine acons_ok (w_call0 (by (repeat infer_instance)) hw) (acons_ok (w_bin (w_call0 (by (repeat infer_instance)) hks) (w_lst (xs := [.int c]) (acons_ok (w_call0 (by (repeat infer_instance)) hc) anil_ok) (Nat.le_of_ble_eq_true rfl) rfl) hadd) anil_ok)
    refine wp_seq (wp_asg (v := .lst (kv.map .int)) (A1 := P ++ [.lst (kv.map .int)]) ?_ rfl ?_)
    · exact (un_ok (var_ok rfl (by intro z; cases z))).trans (lstU_at gp0 (allI _) _ _ _)
    have e1 : (P ++ [Cell.lst (kv.map .int)]).length = P.length + 1 := by simp
    have e2 : (P ++ [Cell.lst (kv.map .int), Cell.lst (Fs.map avQ)]).length = P.length + 2 := by simp
    have L2 : LA (P ++ [.lst (kv.map .int), .lst (Fs.map avQ)]) := by
      have := L1.app (xs := Fs.map avQ) (allQ _)
      rw [List.append_assoc] at this
      exact this
    refine wp_seq (wp_p2 (u := .ref (P.length + 1)) (v := .ref (P.length + 2)) (A1 := P ++ [.lst (kv.map .int), .lst (Fs.map avQ), .lst (fs.map nI)]) ?_ rfl ?_)
    · refine acons_ok (A' := P ++ [.lst (kv.map .int), .lst (Fs.map avQ)]) (w_call0 (xs := [.ref P.length, nI w]) (w_app (acons_ok (var_ok rfl (by intro z; cases z)) anil_ok) (acons_ok (var_ok rfl (by intro z; cases z)) anil_ok) rfl) ?_) (acons_ok (w_call0 (xs := [.ref P.length, nI w]) (w_app (acons_ok (var_ok rfl (by intro z; cases z)) anil_ok) (acons_ok (var_ok rfl (by intro z; cases z)) anil_ok) rfl) ?_) anil_ok)
      · have := f32 [] L1
        rw [e1, List.append_assoc] at this
        exact this
      · have := f31 [.lst (Fs.map avQ)] L2
        rw [e2, List.append_assoc] at this
        exact this
    have nu : ∀ {i : Nat}, AV.ref i ≠ .und := fun {i} z => by cases z
    have nl : ∀ {xs : List AV}, AV.lst xs ≠ .und := fun {xs} z => by cases z
    have g1 : ∀ {l : Hs}, (P ++ l)[P.length + 1]? = l[1]? := gp 1
    have g2 : ∀ {l : Hs}, (P ++ l)[P.length + 2]? = l[2]? := gp 2
    refine wp_seq (wp_asg (v := .lst [.lst (Fs.map avQ), .lst (fs.map nI)]) (A1 := P ++ [.lst (kv.map .int), .lst (Fs.map avQ), .lst (fs.map nI)]) ?_ rfl ?_)
    · refine w_lst (acons_ok ((un_ok (var_ok rfl nu)).trans (lstU_at g1 (allQ _) _ _ _)) (acons_ok ((un_ok (var_ok rfl nu)).trans (lstU_at g2 (allN _) _ _ _)) anil_ok)) (Nat.le_of_ble_eq_true rfl) rfl
    have hFl : Fs.length ≤ 1000 := by
      rw [← hF]
      exact falls_len hl12
    refine wp_seq (wp_expr (v := .non) (A1 := P ++ [.lst (kv.map .int), .lst (Fs.map avQ ++ [.tup [.str "x", .str "y"]]), .lst (fs.map nI)]) ?_ ?_)
    · refine w_append (i := P.length + 1) (x0 := Fs.map avQ) (xs := Fs.map avQ) (y := .tup [.str "x", .str "y"]) (var_ok rfl nu) g1 (acons_ok (w_tup (acons_ok rfl (acons_ok rfl anil_ok)) (Nat.le_of_ble_eq_true rfl) rfl) anil_ok) g1 (by simp; omega) (sp 1 _)
    refine wp_seq (wp_expr (v := .non) (A1 := P ++ [.lst (kv.map .int), .lst (Fs.map avQ ++ [.tup [.str "x", .str "y"]]), .lst []]) ?_ ?_)
    · exact w_clear (i := P.length + 2) (x0 := fs.map nI) (var_ok rfl nu) g2 (sp 2 _)
    have L3 : LA (P ++ [.lst (kv.map .int), .lst (Fs.map avQ ++ [.tup [.str "x", .str "y"]]), .lst []]) := by
      have a := (L1.app (xs := Fs.map avQ ++ [.tup [.str "x", .str "y"]]) (by
        rw [allF_iff]
        intro y hy
        rcases List.mem_append.mp hy with hy | hy
        · exact allF_iff.mp (allQ Fs) y hy
        · rw [List.mem_singleton] at hy; subst hy; rfl)).app (xs := []) rfl
      rw [List.append_assoc, List.append_assoc] at a
      exact a
    generalize hX : Cell.lst (Fs.map avQ ++ [.tup [.str "x", .str "y"]]) = x1 at *
    have h32 := f32 [x1, .lst []] L3
    have h31 := f31 [x1, .lst []] L3
    refine wp_seq (wp_if (k := false) (A1 := P ++ [.lst (kv.map .int), x1, .lst []]) ?_ (sel_fP rfl (wp_nil ?_)))
    · refine ne_self (eLL (eL eQ) (eL eNt)) (by decide) (Fs, fs) (w_lst (acons_ok (cfz_ok (w_call0 (xs := [.ref P.length, nI w]) (w_app (acons_ok (var_ok rfl nu) anil_ok) (acons_ok (var_ok rfl (by intro z; cases z)) anil_ok) rfl) h32) L3.ok (allQ _)) (acons_ok (cfz_ok (w_call0 (xs := [.ref P.length, nI w]) (w_app (acons_ok (var_ok rfl nu) anil_ok) (acons_ok (var_ok rfl (by intro z; cases z)) anil_ok) rfl) h31) L3.ok (allN _)) anil_ok)) (Nat.le_of_ble_eq_true rfl) rfl) (var_ok rfl nl)
    -- sifts, building
    have f48 : lnd 1 (callF F 19) 48 [.ref P.length, .int ((kv.length : Int) - 1), nI w] (P ++ [.lst (kv.map .int), x1, .lst []]) = .ok (upS w kv (kv.length - 1)) (P ++ [.lst (kv.map .int), x1, .lst []]) := by
      refine lnd_v (us' := [.lst (kv.map .int), nI (kv.length - 1), nI w]) L3 ?_ q48 (lnb_sft _ _ _ _)
      unfold optAll
      rw [lend_at hP0 gp0 (allI _), show ((kv.length : Int) - 1) = ((kv.length - 1 : Nat) : Int) by omega]
      rfl
    have f49 : lnd 1 (callF F 19) 49 [.ref P.length, .int 0, nI w] (P ++ [.lst (kv.map .int), x1, .lst []]) = .ok (dnS w kv 0) (P ++ [.lst (kv.map .int), x1, .lst []]) := by
      refine lnd_v (us' := [.lst (kv.map .int), nI 0, nI w]) L3 ?_ q49 (lnb_sft _ _ _ _)
      unfold optAll
      rw [lend_at hP0 gp0 (allI _)]
      rfl
    have f74 : lnd 1 (callF F 19) 74 [.ref P.length, nI w] (P ++ [.lst (kv.map .int), x1, .lst []]) = .ok (blt (bldN w kv)) (P ++ [.lst (kv.map .int), x1, .lst []]) := lnd_v L3 (lend1 [x1, .lst []]) q74 (lnb_blt _ _)
    have hlen : ∀ {call : CallT} {mt : Nat → Option Nat} {e : En} {l : Hs}, e[4]? = some (.ref P.length) → cUn (vLenO call mt) (cVar 4) e (P ++ (.lst (kv.map .int) :: l)) = .ok (.int kv.length) (P ++ (.lst (kv.map .int) :: l)) := fun {call mt e l} he => by
      rw [(un_ok (var_ok he nu)).trans (len_at gp0), List.length_map]
    generalize hS : bldN w kv = S at *
    obtain ⟨ur, uw, uc, hU⟩ : ∃ ur uw uc, upS w kv (kv.length - 1) = sft ur uw uc := ⟨_, _, _, rfl⟩
    obtain ⟨dr', dw, dc, hD⟩ : ∃ ur uw uc, dnS w kv 0 = sft ur uw uc := ⟨_, _, _, rfl⟩
    rw [hU] at f48
    rw [hD] at f49
    have wr : ∀ {e : En} {A : Hs} {i : Nat} {r : List Int} {y : List Nat} {c : Nat}, e[i]? = some (sft r y c) → cFld (tb W.cl fx_row) (cVar i) e A = .ok (avT r) A := fun {e A i r y c} he => (un_ok (var_ok he (by intro z; cases z))).trans rfl
    have ww : ∀ {e : En} {A : Hs} {i : Nat} {r : List Int} {y : List Nat} {c : Nat}, e[i]? = some (sft r y c) → cFld (tb W.cl fx_way) (cVar i) e A = .ok (.tup (y.map nI)) A := fun {e A i r y c} he => (un_ok (var_ok he (by intro z; cases z))).trans rfl
    have wl : ∀ {e : En} {A : Hs} {i : Nat} {r : List Int} {y : List Nat} {c : Nat}, e[i]? = some (sft r y c) → cFld (tb W.cl fx_looks) (cVar i) e A = .ok (nI c) A := fun {e A i r y c} he => (un_ok (var_ok he (by intro z; cases z))).trans rfl
    generalize hA4 : (P ++ [.lst (kv.map .int), x1, .lst []] : Hs) = A4 at *
    have l4 : A4.length = P.length + 3 := by rw [← hA4]; simp
    refine wp_seq (wp_p2 (u := sft ur uw uc) (v := sft dr' dw dc) (A1 := A4) ?_ rfl ?_)
    · refine acons_ok (A' := A4) (w_call0 (xs := [.ref P.length, .int ((kv.length : Int) - 1), nI w]) (w_app (acons_ok (var_ok rfl nu) (acons_ok (w_bin (x := .int kv.length) (y := .int 1) (A1 := A4) (A2 := A4) (by rw [← hA4]; exact hlen rfl) rfl rfl) anil_ok)) (acons_ok (var_ok rfl (by intro z; cases z)) anil_ok) rfl) f48) (acons_ok (w_call0 (xs := [.ref P.length, .int 0, nI w]) (w_app (acons_ok (var_ok rfl nu) (acons_ok rfl anil_ok)) (acons_ok (var_ok rfl (by intro z; cases z)) anil_ok) rfl) f49) anil_ok)
    refine wp_seq (wp_asg (v := blt S) (A1 := A4) ?_ rfl ?_)
    · exact w_call0 (xs := [.ref P.length, nI w]) (w_app (acons_ok (var_ok rfl nu) anil_ok) (acons_ok (var_ok rfl (by intro z; cases z)) anil_ok) rfl) f74
    have L5 : LA (A4 ++ [.lst (S.1.map .int)]) := L3.app (allI _)
    refine wp_seq (wp_asg (v := .ref A4.length) (A1 := A4 ++ [.lst (S.1.map .int)]) ?_ rfl ?_)
    · exact (un_ok (b_row S rfl)).trans (vListUM_sq sqbt _ _ _ _)
    have f62 : lnd 1 (callF F 19) 62 [.ref A4.length, nI w] (A4 ++ [.lst (S.1.map .int)]) = .ok (.tup [.int (S.1.getD 0 0), sfR (tkN w S.1)]) (A4 ++ [.lst (S.1.map .int)]) := by
      refine lnd_v (us' := [.lst (S.1.map .int), nI w]) L5 ?_ q62 (lnb_pr _ _ _ _ _)
      unfold optAll
      rw [lend_at (by omega) get_app (allI _)]
      rfl
    generalize hT : tkN w S.1 = T at *
    refine wp_seq (wp_asg (v := .tup [.int (S.1.getD 0 0), sfR T]) (A1 := A4 ++ [.lst (S.1.map .int)]) ?_ (w_g2 rfl) ?_)
    · exact w_call0 (xs := [.ref A4.length, nI w]) (w_app (acons_ok (var_ok rfl nu) anil_ok) (acons_ok (var_ok rfl (by intro z; cases z)) anil_ok) rfl) f62
    have gk : ∀ l, (A4 ++ l)[P.length]? = some (.lst (kv.map .int)) := fun l => by
      rw [← hA4, List.append_assoc]
      exact gp0
    refine wp_seq (wp_if (k := false) (A1 := A4 ++ [.lst (S.1.map .int)]) ?_ (sel_fP rfl (wp_nil ?_)))
    · refine w_or (k := false) (A1 := A4 ++ [.lst (S.1.map .int)]) ?_ ?_
      · refine (w_bin (var_ok rfl nu) (var_ok rfl nl) ((ne_ref eI (by decide) (gk _) kv _ _).trans ?_))
        rw [decide_eq_true rfl]
        rfl
      · refine (w_bin (var_ok rfl nu) ((un_ok (b_row S rfl)).trans (sq_lstU sqbt _ _ _ _)) ((ne_ref eI (by decide) get_app S.1 _ _).trans ?_))
        rw [decide_eq_true rfl]
        rfl
    refine wp_seq (wp_asg (v := .lst [avT ur, avT dr', avT S.1, avT T.1]) (A1 := A4 ++ [.lst (S.1.map .int)]) ?_ rfl ?_)
    · exact w_lst (acons_ok (wr rfl) (acons_ok (wr rfl) (acons_ok (b_row S rfl) (acons_ok (wr rfl) anil_ok)))) (Nat.le_of_ble_eq_true rfl) rfl
    have hrest := rest_ok (ns := ns) (k1 := k1 + 1) (w := w) (p := P.length) (m := 0) (kv := kv) (S := S) (T := T) (ur := ur) (dr' := dr') (uw := uw) (dw := dw) (uc := uc) (dc := dc) (j := .int j) (z6 := .ref (P.length + 1)) (z7 := .ref (P.length + 2)) (z8 := .lst [.lst (Fs.map avQ), .lst (fs.map nI)]) (z16 := z16) (z17 := z17) (z18 := z18) (z19 := z19) (z20 := z20) (z21 := z21) (A4 := A4) (c0 := S.1.getD 0 0) L5 ⟨_, by rw [← hA4, ← hP]; rfl⟩ (by omega) (by rw [← hA4]; exact gp0) h1 h4 hr hlp hbp hbh htp
    refine wp_mono hrest ?_ (fun _ _ z => z.elim) (fun _ _ z => z.elim)
    rintro e A ⟨B', z2, z3, z4, z5, z6, z7, z8, z9, z10, z11, z12, z13, z14, z15, z16, z17, z18, z19, z20, z21, rfl, rfl, L⟩
    exact ⟨_, B', z2, z3, z4, z5, z6, z7, z8, z9, z10, z11, z12, z13, z14, z15, z16, z17, z18, z19, z20, z21, rfl, rfl, L⟩
  · rintro e' A' ⟨k, B, z2, z3, z4, z5, z6, z7, z8, z9, z10, z11, z12, z13, z14, z15, z16, z17, z18, z19, z20, z21, rfl, rfl, hB⟩
    (repeat infer_instance)
    exact ⟨_, fin_app (A := [.tab 0]) (B := dr ns k :: B) rfl rfl⟩
end Ev.k09
open PySem PySem.W PySem.Calls PyProof.Rows
theorem PySem.Challenge.cw_heaprows_k09_whole_anew_holds : PySem.Challenge.rw_heaprows_k09_whole_anew.Holds := by
  w_on; o_law
  refine HandSHeadRun.head_any (r := OpenLaw.row PySem.Challenge.rw_heaprows_k09_whole_anew) (q := view (OpenLaw.row PySem.Challenge.rw_heaprows_k09_whole_anew).prog [52]) (H := Ev.k09.hk) (ob := Ev.k09.ob) (M := 20000) (loose := Ev.k09.nms) (d := HandSHeadRun.topDef (OpenLaw.row PySem.Challenge.rw_heaprows_k09_whole_anew).prog 52) (kwd := []) Ev.k09.ob_eq
    (by kernel_rfl) (fun s => by kernel_rfl) Ev.k09.run (by kernel_rfl) (by kernel_rfl) (by kernel_rfl) (by rfl) (by first | assumption | decide +kernel) (by decide +kernel) ⟨rfl, rfl, rfl, rfl, rfl, by decide +kernel⟩ ?hw ?hc
  case hw => w_witness2
  case hc =>
    refine LamX.walk_ofTsE (l := PySem.Challenge.rw_heaprows_k09_whole_anew) (n := 63) (k := 120) (x := "script") (CX := fun _ => L2.CX0) rfl (by decide) (by kernel_rfl) ⟨rfl, by decide, by decide⟩ ?F (fun _ _ _ _ _ z => z)
    intro w mg fa h Y G hmg0
    obtain ⟨K, KX, c⟩ := Y
    have hmg : mg ("law" : PySem.Str) = some (.ref fa) := by
      have e : (HandSHeadRun.topDef (OpenLaw.row PySem.Challenge.rw_heaprows_k09_whole_anew).prog 52).name = ("law" : PySem.Str) := by kernel_rfl
      rw [← e]
      exact hmg0
    obtain ⟨fds, Z⟩ := Ev.k09.facts KX G c.s
    have e := hmg.symm.trans Z.g_law
    cases e
    have b := L2.FunD.bindsA (ps := ["script"]) Z.d99 fun _ _ _ _ _ _ us hl => match us, hl with | [_], _ => rfl
    refine ⟨K, KX, Ev.lawAtL (cd := Ev.k09.cd) (F := Ev.k09.F) (N := 20) (lawk := 99) (fd := fds 99) Ev.k09.tl c KX (by decide) (He.ba c.s.chk_).2 (fun s v => b s [v] rfl) Ev.k09.pure_law fun base hT => ?_⟩
    exact Ev.k09.allOk Z (hT 0 (by decide)) 20 99
