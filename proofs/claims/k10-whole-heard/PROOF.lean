import PyProof.Rows.All
import Wide.All
import OpenK.AllK
import Wide.FinOn
import HandS.ForMost
import HandS.ExcInit
import HandS.ExcField
import HandS.HeadHook1
import HandS.HeadHook2
import HandS.HeadHook3
import HandS.HeadHook4
import HandS.Head0
import HandS.Head1
import HandS.Head2
import HandS.HeadEnd
import KE.KDictKeyed
import HandS.Exc
import HandS.Wide
import HandS.CallSlots
import HandS.TupAny
import PyProof.StrOps2
import HandS.Iter
import PyProof.LongRange
import HandS.ExcOwn
import HandS.WordsExc
import HandS.Defaults
import HandS.NoneIn
import HandS.Property
import HandS.Style
import PyProof.RulesMatch
import HandS.TryMany
import HandS.IsInst
import HandS.Zip
import KE.GoesZip
import PyProof.EnumMake
import KE.GoesMore
import HandS.Sort
import HandS.SortOrd
import HandS.SortRule
import HandS.DictComp
import HandS.DictTup
import KE.KDictList
import HandS.SlotsOwn
import KE.KOpsOwn
import HandS.TupSets
import HandS.ListItems
import KE.KDictItemsList
import PySem.Challenge.RW_beatrounds_k10_whole_heard
set_option Elab.async false
set_option linter.all false
set_option maxRecDepth 100000
namespace BR
open PySem PySem.Spec PyProof.Rows L2
open He (ba eqO eqO_ok ga ma fAd)
def pAd (K : PySem.W.Frag) (x f : Str) : Addr := ma K (ga K x) f
inductive Fb where
  | prop (x f : Str)
  | oex (x : Str)
  | bex (x : Str)
  | xfc (x : Str)
  | ini (x : Str)
  | tab (x : Str) (kvs : List (Str × Str))
  /-- an own operator, by its def; what stands at its right -/
  | bin (x : Str) (nm : String) (f : Str)
  | fnc (x f : Str)
  | isi (x : Str)
  /-- != of a class that says nothing of it -/
  | one (x : Str)
def fnB (K : PySem.W.Frag) (x f : Str) : Bool := eqO (PySem.W.findIn K (.ref (ga K x)) f) (some (some (.ref (ma K (ga K x) f)))) && PySem.W.isFn K (.ref (ma K (ga K x) f))
def oexB (K : PySem.W.Frag) (C : Addr) : Bool := match K.lookup C with
  | some ⟨.type t, _, .cls cd, sl⟩ => (match cd.mro, sl.toList with
    | .ref D :: bm, [_, _, _, _, some (.builtin n), _] => decide (t = "type") && (decide (D = C) && (decide (n = "ValueError.__new__") && (cd.hasDict && (!cd.hasDel && PySem.HandSPX.refsVE bm))))
    | _, _ => false)
  | _ => false
def Fb.ok (K : PySem.W.Frag) : Fb → Bool
  | .prop x f => eqO (PySem.W.findIn K (.ref (ga K x)) f) (some (some (.ref (pAd K x f)))) && (eqO (PySem.W.specialIn K (.ref (pAd K x f)) "__get__") (some (some (.builtin "property.__get__"))) && (decide (PySem.W.takesIn K (.ref (pAd K x f)) = some true) &&
      (match PySem.W.recIn K (pAd K x f) "property" with
        | some (.ref _ :: _) => true
        | _ => false)))
  | .oex x => oexB K (ga K x) && (eqO (PySem.W.findIn K (.ref (ga K x)) "__setattr__") (some (some (.builtin "object.__setattr__"))) && (decide (PySem.W.subIn K (.ref (ga K x)) (.type "BaseException") = some true) && (decide (PySem.W.typeIn K (.ref (ga K x)) = some (.type "type")) && PySem.W.keepIn K (.ref (ga K x)))))
  | .bex x => eqO (PySem.W.specialIn K (.ref (ga K x)) "__getattribute__") (some (some (.builtin "type.__getattribute__"))) && (PySem.W.readsIn K (ga K x) (.type "type") && (match PySem.W.findCls K (.ref (ga K x)) (.type "type") "__init__" with
      | some (.val (.builtin b)) => decide (b = "ValueError.__init__")
      | _ => false))
  | .xfc x => xfB K (ga K x)
  | .ini x => eqO (PySem.W.findIn K (.ref (ga K x)) "__init__") (some (some (.ref (ma K (ga K x) "__init__")))) && decide (PySem.W.typeIn K (.ref (ma K (ga K x) "__init__")) = some (.type "function"))
  | .bin x nm f => fnB K x f && (decide (PySem.dunder nm = f) && (PySem.W.selfFirst K (ga K x) && eqO (PySem.W.findIn K (.ref (ga K x)) (PySem.dunderR nm)) (some none)))
  | .fnc x f => fnB K x f
  | .one x => eqO (PySem.W.findIn K (.ref (ga K x)) "__ne__") (some (some (.builtin "object.__ne__"))) && decide (PySem.W.mroIn K (ga K x) (.type "object") = some true)
  | .isi x => eqO (PySem.W.findIn K (.ref (ga K x)) "__class__") (some (some (.builtin "object.__class__"))) && (eqO (PySem.W.specialIn K (.builtin "object.__class__") "__get__") (some (some (.builtin "getset_descriptor.__get__"))) &&
      (decide (PySem.W.takesIn K (.builtin "object.__class__") = some true) && (decide (PySem.W.mroIn K (ga K x) (.type "object") = some true) && ((PySem.W.clsIn K (ga K x)).isSome && decide (PySem.W.typeIn K (.ref (ga K x)) = some (.type "type"))))))
  | .tab x kvs => kvs.all fun q => match PySem.W.nsIn K (ga K x) q.1 with
    | some (some (.str z _)) => decide (z = q.2)
    | _ => false
structure DD where
  adr : PySem.W.Frag → Addr
  name : Str
  qual : Str
  params : Arguments
  body : List Stmt
  scope : Scope
def fdOf (K : PySem.W.Frag) (a : Addr) : FuncData := match K.lookup a with
  | some ⟨_, _, .func fd, _⟩ => fd
  | _ => ⟨Str.empty, Str.empty, ⟨[], [], none, [], [], none, []⟩, .stmts [], ⟨.function, [], false, false, []⟩, 0, [], .none, .none, .none, .none, none, .none, .none, 0⟩
def fnWA (K : PySem.W.Frag) (a : Addr) : He.FnW := match K.lookup a with
  | some ⟨_, _, .func fd, _⟩ => some (fd.name, fd.qualname, fd.params, fd.body, fd.scope, fd.globals, fd.closure, fd.builtins)
  | _ => none
def DD.val (d : DD) : He.FnW := some (d.name, d.qual, d.params, .stmts d.body, d.scope, mainGlobals, [], builtinsNs)
def noneV : Value → Bool
  | .none => true
  | _ => false
def DD.ok (K : PySem.W.Frag) (d : DD) : Bool := PySem.W.keepIn K (.ref (d.adr K)) && (match K.lookup (d.adr K) with
  | some ⟨_, _, .func fd, _⟩ => PySem.W.codeIn K fd.code d.qual && noneV fd.defaults
  | _ => false)
def exB (fb : List Fb) (gs : List DD) (K : PySem.W.Frag) : Bool := (fb.all fun f => f.ok K) && gs.all fun d => d.ok K
/-- what the module's names reach, and what the classes' reading asks of the boot -/
def refsK (o : Obj) : List Addr := match o with
  | ⟨_, _, .func fd, _⟩ => He.refV fd.code
  | ⟨_, _, .cls cd, _⟩ => [cd.ns]
  | ⟨_, _, .dict es _, _⟩ => es.toList.flatMap fun e => He.refV e.val
  | ⟨.type "property", _, .fields vs, _⟩ => vs.toList.flatMap He.refV
  | _ => []
def lvK (g : Addr → Option Obj) : Nat → List Addr → List Addr
  | 0, as => as
  | n + 1, as => as ++ lvK g n (as.flatMap fun a => match g a with
    | some o => refsK o
    | none => [])
def asB (g : Addr → Option Obj) (n : Nat) : List Addr := cStatics :: lvK g n [mainGlobals]
abbrev AlB : Type := Bool × List (Option (List (Option (Str × Int)))) × List He.FnW
def lookB (fa : List He.Fa) (fb : List Fb) (ts : List He.Tab) (gs : List DD) (K : PySem.W.Frag) : AlB := ((fa.all fun f => f.ok K) && exB fb gs K, ts.map fun t => He.dicW K (t.1 K), gs.map fun d => fnWA K (d.adr K))
def obsB (n : Nat) (fa : List He.Fa) (fb : List Fb) (ts : List He.Tab) (gs : List DD) (g : Addr → Option Obj) : AlB := lookB fa fb ts gs (He.frT g (asB g n))
section
open PySem.W HandSHeadRun
/-- the run of the top -/
noncomputable abbrev topRun (r : OpenRow) (M : Nat) (w : World) (os : OsState) : Option SharedT := endF (stepQ (denQ tabQ) r.prog w) M r.prog w os
/-- the names' objects, so far as the facts ask -/
def kOf (n : Nat) (s : SharedT) : Frag := He.frT (getT s) (asB (getT s) n)
def Eq1 (r : OpenRow) (q : Program) (M : Nat) (loose : List Str) (w : World) : Prop := ∀ os : OsState, (topRun r M w os).map (fun s => (looksF r.prog (boot_heap w.params) s.abs, seenQ q loose (importedModules r.prog.main.body) (fun s => xlAt q [] s && recOk r.toRowW.records s) s.abs)) = some (true, openGood q loose)
def Eq2 (n : Nat) (fa : List He.Fa) (r : OpenRow) (M : Nat) (w : World) : Prop := ∀ os : OsState, (topRun r M w os).map (fun s => fa.all fun f => f.ok (kOf n s)) = some true
def Eq3 (n : Nat) (fb : List Fb) (gs : List DD) (r : OpenRow) (M : Nat) (w : World) : Prop := ∀ os : OsState, (topRun r M w os).map (fun s => exB fb gs (kOf n s)) = some true
def Eq4 (n : Nat) (ts : List He.Tab) (gs : List DD) (r : OpenRow) (M : Nat) (w : World) : Prop := ∀ os : OsState, (topRun r M w os).map (fun s => (ts.map fun t => He.dicW (kOf n s) (t.1 (kOf n s)), gs.map fun d => fnWA (kOf n s) (d.adr (kOf n s)))) = some (ts.map fun t => some (He.keysIn w.params t.2), gs.map DD.val)
/-- all four at once -/
def EqA (n : Nat) (fa : List He.Fa) (fb : List Fb) (ts : List He.Tab) (gs : List DD) (r : OpenRow) (q : Program) (M : Nat) (loose : List Str) (w : World) : Prop := ∀ os : OsState, (topRun r M w os).map (fun s => ((looksF r.prog (boot_heap w.params) s.abs, seenQ q loose (importedModules r.prog.main.body) (fun s => xlAt q [] s && recOk r.toRowW.records s) s.abs), (fa.all fun f => f.ok (kOf n s)), exB fb gs (kOf n s), (ts.map fun t => He.dicW (kOf n s) (t.1 (kOf n s)), gs.map fun d => fnWA (kOf n s) (d.adr (kOf n s))))) = some ((true, openGood q loose), true, true, (ts.map fun t => some (He.keysIn w.params t.2), gs.map DD.val))
theorem map_proj {α β γ : Type} {o : Option α} {f : α → β} {b : β} (g : β → γ) (h : o.map f = some b) : o.map (fun x => g (f x)) = some (g b) := by
  cases o with
  | none => cases h
  | some a =>
    have h : some (f a) = some b := h
    cases h
    rfl
theorem EqA.e1 {n fa fb ts gs r q M loose w} (h : EqA n fa fb ts gs r q M loose w) : Eq1 r q M loose w := fun os => map_proj (fun z => z.1) (h os)
theorem EqA.e2 {n fa fb ts gs r q M loose w} (h : EqA n fa fb ts gs r q M loose w) : Eq2 n fa r M w := fun os => map_proj (fun z => z.2.1) (h os)
theorem EqA.e3 {n fa fb ts gs r q M loose w} (h : EqA n fa fb ts gs r q M loose w) : Eq3 n fb gs r M w := fun os => map_proj (fun z => z.2.2.1) (h os)
theorem EqA.e4 {n fa fb ts gs r q M loose w} (h : EqA n fa fb ts gs r q M loose w) : Eq4 n ts gs r M w := fun os => map_proj (fun z => z.2.2.2) (h os)
theorem both_worlds {P : World → Prop} (h : ∀ (b : Bool) (w : World), P (w.withFollow "special-get-raises" b)) (w : World) : P w := by
  rw [← World.withFollow_self w "special-get-raises"]
  exact h _ _
end
end BR
set_option Elab.async false
set_option linter.all false
set_option pp.deepTerms false
set_option maxRecDepth 100000
set_option maxHeartbeats 0
namespace K10
open PySem PySem.Spec PyProof.Rows L2 BR
open He (ga ma)
def top (i : Nat) : Stmt := PySem.Challenge.pw_beatrounds_k10_whole_heard.main.body.getD i (.Pass ⟨0, 0, 0, 0⟩)
def clsBody : Stmt → List Stmt
  | .ClassDef (body := b) .. => b
  | _ => []
def ctop (i j : Nat) : Stmt := (clsBody (top i)).getD j (.Pass ⟨0, 0, 0, 0⟩)
abbrev s0 : Stmt := top 42
abbrev s184 : Stmt := top 35
abbrev s162 : Stmt := top 30
abbrev s163 : Stmt := top 31
abbrev s183 : Stmt := top 28
abbrev s161 : Stmt := top 29
abbrev s186 : Stmt := top 37
abbrev s185 : Stmt := top 36
abbrev s164 : Stmt := top 32
abbrev s1 : Stmt := top 39
abbrev s138 : Stmt := top 24
abbrev s140 : Stmt := top 26
abbrev s2 : Stmt := top 40
abbrev s3 : Stmt := top 41
abbrev s136 : Stmt := top 22
abbrev s74 : Stmt := top 13
abbrev s72 : Stmt := top 11
abbrev s71 : Stmt := top 10
abbrev s137 : Stmt := top 23
abbrev s139 : Stmt := top 25
abbrev s105 : Stmt := top 17
abbrev s108 : Stmt := top 20
abbrev s67 : Stmt := top 6
abbrev s69 : Stmt := top 8
abbrev s70 : Stmt := top 9
abbrev s73 : Stmt := top 12
abbrev s75 : Stmt := top 14
abbrev s68 : Stmt := top 7
abbrev s107 : Stmt := top 19
abbrev s65 : Stmt := top 5
abbrev s64 : Stmt := top 4
abbrev s106 : Stmt := top 18
abbrev s_x_InvalidHeard : Stmt := ctop 2 0
def gs : List DD := [
  ⟨(fun K => ga K "law"), "law", "law", defArgs s0, defBody s0, defScope s0⟩,
  ⟨(fun K => ga K "_law_rhythm"), "_law_rhythm", "_law_rhythm", defArgs s184, defBody s184, defScope s184⟩,
  ⟨(fun K => ga K "_law_sum"), "_law_sum", "_law_sum", defArgs s162, defBody s162, defScope s162⟩,
  ⟨(fun K => ga K "_law_times"), "_law_times", "_law_times", defArgs s163, defBody s163, defScope s163⟩,
  ⟨(fun K => ga K "_law_taken"), "_law_taken", "_law_taken", defArgs s183, defBody s183, defScope s183⟩,
  ⟨(fun K => ga K "_law_frac"), "_law_frac", "_law_frac", defArgs s161, defBody s161, defScope s161⟩,
  ⟨(fun K => ga K "_law_between"), "_law_between", "_law_between", defArgs s186, defBody s186, defScope s186⟩,
  ⟨(fun K => ga K "_law_least"), "_law_least", "_law_least", defArgs s185, defBody s185, defScope s185⟩,
  ⟨(fun K => ga K "_law_less"), "_law_less", "_law_less", defArgs s164, defBody s164, defScope s164⟩,
  ⟨(fun K => ga K "_law_may"), "_law_may", "_law_may", defArgs s1, defBody s1, defScope s1⟩,
  ⟨(fun K => ga K "rounds"), "rounds", "rounds", defArgs s138, defBody s138, defScope s138⟩,
  ⟨(fun K => ga K "expected"), "expected", "expected", defArgs s140, defBody s140, defScope s140⟩,
  ⟨(fun K => ga K "_law_next"), "_law_next", "_law_next", defArgs s2, defBody s2, defScope s2⟩,
  ⟨(fun K => ga K "_law_refused"), "_law_refused", "_law_refused", defArgs s3, defBody s3, defScope s3⟩,
  ⟨(fun K => ga K "check_heard"), "check_heard", "check_heard", defArgs s136, defBody s136, defScope s136⟩,
  ⟨(fun K => ga K "floor"), "floor", "floor", defArgs s74, defBody s74, defScope s74⟩,
  ⟨(fun K => ga K "over"), "over", "over", defArgs s72, defBody s72, defScope s72⟩,
  ⟨(fun K => ga K "product"), "product", "product", defArgs s71, defBody s71, defScope s71⟩,
  ⟨(fun K => ga K "may_come_round"), "may_come_round", "may_come_round", defArgs s137, defBody s137, defScope s137⟩,
  ⟨(fun K => ga K "next_beat"), "next_beat", "next_beat", defArgs s139, defBody s139, defScope s139⟩,
  ⟨(fun K => ga K "is_time"), "is_time", "is_time", defArgs s105, defBody s105, defScope s105⟩,
  ⟨(fun K => ga K "are_beats"), "are_beats", "are_beats", defArgs s108, defBody s108, defScope s108⟩,
  ⟨(fun K => ga K "fraction"), "fraction", "fraction", defArgs s67, defBody s67, defScope s67⟩,
  ⟨(fun K => ga K "added"), "added", "added", defArgs s69, defBody s69, defScope s69⟩,
  ⟨(fun K => ga K "less"), "less", "less", defArgs s70, defBody s70, defScope s70⟩,
  ⟨(fun K => ga K "is_less"), "is_less", "is_less", defArgs s73, defBody s73, defScope s73⟩,
  ⟨(fun K => ga K "ceiling"), "ceiling", "ceiling", defArgs s75, defBody s75, defScope s75⟩,
  ⟨(fun K => ga K "is_fraction"), "is_fraction", "is_fraction", defArgs s68, defBody s68, defScope s68⟩,
  ⟨(fun K => ga K "is_beat"), "is_beat", "is_beat", defArgs s107, defBody s107, defScope s107⟩,
  ⟨(fun K => ga K "common"), "common", "common", defArgs s65, defBody s65, defScope s65⟩,
  ⟨(fun K => ga K "is_whole"), "is_whole", "is_whole", defArgs s64, defBody s64, defScope s64⟩,
  ⟨(fun K => ga K "are_letters"), "are_letters", "are_letters", defArgs s106, defBody s106, defScope s106⟩,
  ⟨(fun K => ma K (ga K "InvalidHeard") "__init__"), "__init__", "InvalidHeard.__init__", defArgs s_x_InvalidHeard, defBody s_x_InvalidHeard, defScope s_x_InvalidHeard⟩]
def fa : List He.Fa := [.free "range", .glo "_law_rhythm", .glo "_law_taken", .glo "_law_times", .glo "_law_frac", .glo "_law_sum", .glo "_law_least", .glo "_law_between", .free "len", .glo "_law_less", .glo "_law_may", .glo "rounds", .free "tuple", .glo "expected", .free "list", .glo "_law_next", .glo "_law_refused", .free "int", .free "abs", .free "dict", .glo "check_heard", .glo "over", .glo "floor", .glo "product", .glo "may_come_round", .glo "next_beat", .glo "InvalidHeard", .free "isinstance", .glo "is_time", .glo "are_beats", .glo "fraction", .glo "added", .glo "less", .glo "is_less", .glo "ceiling", .glo "is_fraction", .glo "is_beat", .free "all", .free "zip", .glo "common", .glo "is_whole", .glo "are_letters", .free "bool", .free "str", .str "LETTERS" "abcd", .glo "law", .glo "BeatError", .exm "InvalidHeard" "InvalidHeard" true]
def fb : List Fb := [.oex "InvalidHeard", .ini "InvalidHeard", .bex "BeatError"]
def ts : List He.Tab := []
abbrev RO : PySem.W.OpenRow := PySem.W.OpenLaw.row PySem.Challenge.rw_beatrounds_k10_whole_heard
def loose : List Str := [Str.ofString "BeatError", Str.ofString "InvalidHeard", Str.ofString "is_whole", Str.ofString "common", Str.ofString "fraction", Str.ofString "is_fraction", Str.ofString "added", Str.ofString "less", Str.ofString "product", Str.ofString "over", Str.ofString "is_less", Str.ofString "floor", Str.ofString "ceiling", Str.ofString "LETTERS", Str.ofString "is_time", Str.ofString "are_letters", Str.ofString "is_beat", Str.ofString "are_beats", Str.ofString "check_heard", Str.ofString "may_come_round", Str.ofString "rounds", Str.ofString "next_beat", Str.ofString "expected", Str.ofString "_law_taken", Str.ofString "_law_frac", Str.ofString "_law_sum", Str.ofString "_law_times", Str.ofString "_law_less", Str.ofString "_law_lcm", Str.ofString "_law_beats", Str.ofString "_law_rhythm", Str.ofString "_law_least", Str.ofString "_law_between", Str.ofString "_law_sound", Str.ofString "_law_may", Str.ofString "_law_next", Str.ofString "_law_refused"]
theorem qAf (w : World) : EqA 4 fa fb ts gs RO (PySem.W.view RO.prog [42]) 20000 loose (w.withFollow "special-get-raises" false) := by
  intro os
  kernel_rfl
theorem qAt (w : World) : EqA 4 fa fb ts gs RO (PySem.W.view RO.prog [42]) 20000 loose (w.withFollow "special-get-raises" true) := by
  intro os
  kernel_rfl
end K10
set_option Elab.async false
set_option linter.all false
set_option maxRecDepth 100000
namespace BR
open PySem
/-- pure values; lst: a frozen list; scr: the script; ref: an object of the store (a list or an instance that may change) -/
inductive PV where
  | non | bl (b : Bool) | int (i : Int) | str (s : List Nat)
  | tup (xs : List PV) | lst (xs : List PV) | dct (ks vs : List PV)
  | ins (c : Nat) (ns : List Str) (vs : List PV)
  | scr (ns : List Int)
  /-- a pair that zip, enumerate or items gave -/
  | wt (xs : List PV)
  | ref (i : Nat)
  deriving Inhabited
/-- what a name holds: nothing, a value, a list of its own that nobody else has, an instance that is being made -/
inductive SV where
  | un | val (p : PV) | own (xs : List PV) | ins (c : Nat) (ns : List Str) (vs : List PV)
  deriving Inhabited
/-- an object of the store -/
inductive SO where
  | lst (xs : List PV) | ins (c : Nat) (ns : List Str) (vs : List PV)
  deriving Inhabited
abbrev Store := List SO
abbrev Env := List SV
inductive R (α : Type) where
  | ok (a : α) (st : Store) | ex (c : Nat) (ns : List Str) (vs : List PV) (st : Store) | bad
inductive SR where
  | next (ρ : Env) (st : Store) | ret (v : SV) (st : Store) | brk (ρ : Env) (st : Store) | cnt (ρ : Env) (st : Store)
  | ex (c : Nat) (ns : List Str) (vs : List PV) (ρ : Env) (st : Store) | bad
abbrev EM := Env → Store → R PV
abbrev FM := Env → Store → R SV
abbrev BM := Env → Store → R Bool
abbrev AM := Env → Store → R (List PV)
abbrev SM := Env → Store → SR
abbrev CallT := Nat → List PV → Store → R SV
/-- a target -/
abbrev GM := PV → Env → Store → Option (Env × Store)
def R.bind {α β : Type} (r : R α) (f : α → Store → R β) : R β := match r with
  | .ok a st => f a st
  | .ex c ns vs st => .ex c ns vs st
  | .bad => .bad
def R.bindS {α : Type} (r : R α) (ρ : Env) (f : α → Store → SR) : SR := match r with
  | .ok a st => f a st
  | .ex c ns vs st => .ex c ns vs ρ st
  | .bad => .bad
/-- within a comprehension nothing may be raised -/
def R.noex {α : Type} (r : R α) : R α := match r with
  | .ok a st => .ok a st
  | _ => .bad
def R.ofOpt {α : Type} (o : Option α) (st : Store) : R α := match o with
  | some a => .ok a st
  | none => .bad
mutual
def eqv : PV → PV → Bool
  | .non, .non => true
  | .bl a, .bl b => a == b
  | .int a, .int b => decide (a = b)
  | .bl a, .int b => decide ((if a then 1 else 0) = b)
  | .int a, .bl b => decide (a = (if b then 1 else 0))
  | .str a, .str b => decide (a = b)
  | .tup a, .tup b => eqvs a b
  | .lst a, .lst b => eqvs a b
  | _, _ => false
def eqvs : List PV → List PV → Bool
  | [], [] => true
  | a :: as, b :: bs => eqv a b && eqvs as bs
  | _, _ => false
end
mutual
def plain (n : Nat) : PV → Bool
  | .non => true
  | .bl _ => true
  | .int _ => true
  | .str s => s.all fun x => decide (x < 1114112)
  | .tup a => match n with
    | 0 => false
    | k + 1 => plains k a
  | .lst a => match n with
    | 0 => false
    | k + 1 => plains k a
  | _ => false
def plains (n : Nat) : List PV → Bool
  | [] => true
  | a :: as => plain n a && plains n as
end
def eC (p : PV) : EM := fun _ st => .ok p st
def eVar (i : Nat) : EM := fun ρ st => match ρ[i]? with
  | some (.val p) => .ok p st
  | _ => .bad
def eOp1 (f : PV → Option PV) (m : EM) : EM := fun ρ st => (m ρ st).bind fun p st1 => R.ofOpt (f p) st1
def eOp2 (f : PV → PV → Option PV) (m1 m2 : EM) : EM := fun ρ st => (m1 ρ st).bind fun p st1 => (m2 ρ st1).bind fun q st2 => R.ofOpt (f p q) st2
def eOp3 (f : PV → PV → PV → Option PV) (m1 m2 m3 : EM) : EM := fun ρ st => (m1 ρ st).bind fun p st1 => (m2 ρ st1).bind fun q st2 => (m3 ρ st2).bind fun r st3 => R.ofOpt (f p q r) st3
def aNil : AM := fun _ st => .ok [] st
def aCons (m : EM) (r : AM) : AM := fun ρ st => (m ρ st).bind fun p st1 => (r ρ st1).bind fun ps st2 => .ok (p :: ps) st2
/-- a built-in by its arguments -/
def eOpN (f : List PV → Option PV) (m : AM) : EM := fun ρ st => (m ρ st).bind fun p st1 => R.ofOpt (f p) st1
def lim : Nat := 1000000
def eTup (m : AM) : EM := fun ρ st => (m ρ st).bind fun ps st1 => if ps.length ≤ lim then .ok (.tup ps) st1 else .bad
def fLst (m : AM) : FM := fun ρ st => (m ρ st).bind fun ps st1 => if ps.length ≤ lim then .ok (.own ps) st1 else .bad
def SV.toPV : SV → Option PV
  | .val p => some p
  | .own xs => some (.lst xs)
  | _ => none
/-- a fresh list is made known as a value -/
def eFrz (m : FM) : EM := fun ρ st => (m ρ st).bind fun v st1 => R.ofOpt v.toPV st1
def fVal (m : EM) : FM := fun ρ st => (m ρ st).bind fun p st1 => .ok (.val p) st1
def fCall (call : CallT) (id : Nat) (m : AM) : FM := fun ρ st => (m ρ st).bind fun ps st1 => call id ps st1
def fIf (c : BM) (a b : FM) : FM := fun ρ st => (c ρ st).bind fun k st1 => if k then a ρ st1 else b ρ st1
def eIf (c : BM) (a b : EM) : EM := fun ρ st => (c ρ st).bind fun k st1 => if k then a ρ st1 else b ρ st1
def tVal (m : EM) : BM := fun ρ st => (m ρ st).bind fun p st1 => match p with
  | .bl b => .ok b st1
  | _ => .bad
def tNot (m : BM) : BM := fun ρ st => (m ρ st).bind fun k st1 => .ok (!k) st1
def tAnd (a b : BM) : BM := fun ρ st => (a ρ st).bind fun k st1 => if k then b ρ st1 else .ok false st1
def tOr (a b : BM) : BM := fun ρ st => (a ρ st).bind fun k st1 => if k then .ok true st1 else b ρ st1
/-- and, or, not as values (bools) -/
def eAnd (a b : EM) : EM := fun ρ st => (a ρ st).bind fun p st1 => match p with
  | .bl true => b ρ st1
  | .bl false => .ok (.bl false) st1
  | _ => .bad
def eNot (a : EM) : EM := fun ρ st => (a ρ st).bind fun p st1 => match p with
  | .bl k => .ok (.bl (!k)) st1
  | _ => .bad
def pAdd : PV → PV → Option PV
  | .int a, .int b => some (.int (a + b))
  | .str a, .str b => if a.length + b.length ≤ lim then some (.str (a ++ b)) else none
  | .tup a, .tup b => if a.length + b.length ≤ lim then some (.tup (a ++ b)) else none
  | .lst a, .lst b => if a.length + b.length ≤ lim then some (.lst (a ++ b)) else none
  | _, _ => none
def pSub : PV → PV → Option PV
  | .int a, .int b => some (.int (a - b))
  | _, _ => none
def small (a : Int) : Bool := decide (a.natAbs.log2 < 9000)
def pMul : PV → PV → Option PV
  | .int a, .int b => if small a && small b then some (.int (a * b)) else none
  | .lst a, .int b => if decide (0 ≤ b) && decide (b < 1000) && decide (a.length < 1000) then some (.lst (List.replicate b.toNat a).flatten) else none
  | .str a, .int b => if decide (0 ≤ b) && decide (b < 1000) && decide (a.length < 1000) then some (.str (List.replicate b.toNat a).flatten) else none
  | _, _ => none
def pDiv : PV → PV → Option PV
  | .int a, .int b => if decide (0 < b) && small b then some (.int (a / b)) else none
  | _, _ => none
def pMod : PV → PV → Option PV
  | .int a, .int b => if decide (0 < b) then some (.int (a % b)) else none
  | _, _ => none
def pPow : PV → PV → Option PV
  | .int a, .int b => if decide (0 ≤ b ∧ b ≤ 1000 ∧ a.natAbs < 2 ^ 64) then some (.int (a ^ b.toNat)) else none
  | _, _ => none
def pNeg : PV → Option PV
  | .int a => some (.int (-a))
  | _ => none
def pLt : PV → PV → Option PV
  | .int a, .int b => some (.bl (decide (a < b)))
  | .str a, .str b => some (.bl (decide (a < b)))
  | _, _ => none
def pLe : PV → PV → Option PV
  | .int a, .int b => some (.bl (decide (a ≤ b)))
  | _, _ => none
def pGt : PV → PV → Option PV
  | .int a, .int b => some (.bl (decide (b < a)))
  | _, _ => none
def pGe : PV → PV → Option PV
  | .int a, .int b => some (.bl (decide (b ≤ a)))
  | _, _ => none
def pEq : PV → PV → Option PV := fun a b => if plain 8 a && plain 8 b then some (.bl (eqv a b)) else none
def pNe : PV → PV → Option PV := fun a b => if plain 8 a && plain 8 b then some (.bl (!eqv a b)) else none
def strs? : List PV → Option (List (List Nat))
  | [] => some []
  | .str s :: r => (strs? r).map fun l => s :: l
  | _ => none
def inStr (c : List Nat) (s : List Nat) : Option Bool := match c with
  | [k] => some (decide (k ∈ s))
  | _ => none
def pIn : PV → PV → Option PV
  | .str c, .str s => (inStr c s).map PV.bl
  | .str c, .tup xs => (strs? xs).map fun l => .bl (l.any fun z => decide (z = c))
  | _, _ => none
def pNotIn : PV → PV → Option PV
  | .str c, .str s => (inStr c s).map fun b => .bl (!b)
  | .str c, .tup xs => (strs? xs).map fun l => .bl (!(l.any fun z => decide (z = c)))
  | _, _ => none
def PV.isNone : PV → Bool
  | .non => true
  | _ => false
def pIsN : PV → PV → Option PV
  | a, .non => some (.bl a.isNone)
  | _, _ => none
def nAbs : List PV → Option PV
  | [.int a] => some (.int (if a < 0 then -a else a))
  | _ => none
def nLen : List PV → Option PV
  | [.tup xs] => some (.int xs.length)
  | [.lst xs] => some (.int xs.length)
  | [.scr xs] => some (.int xs.length)
  | [.str s] => if s.length ≤ lim then some (.int s.length) else none
  | _ => none
def nInt : List PV → Option PV
  | [.int a] => some (.int a)
  | [.bl k] => some (.int (if k then 1 else 0))
  | [.str [k]] => if decide (48 ≤ k ∧ k ≤ 57) then some (.int ((k : Int) - 48)) else none
  | _ => none
/-- str of a digit -/
def nStr : List PV → Option PV
  | [.int a] => if decide (0 ≤ a ∧ a < 10) then some (.str [a.toNat + 48]) else none
  | _ => none
def nTuple : List PV → Option PV
  | [.tup xs] => some (.tup xs)
  | [.lst xs] => some (.tup xs)
  | _ => none
def pIdx : PV → PV → Option PV
  | .tup xs, .int i => L2.atI xs i
  | .lst xs, .int i => L2.atI xs i
  | .scr ns, .int i => (L2.atI ns i).map PV.int
  | .str s, .int i => if s.length ≤ lim then (L2.atI s i).map fun c => .str [c] else none
  | _, _ => none
def pAddI : PV → PV → Option PV
  | .int a, .int b => some (.int (a + b))
  | _, _ => none
/-- the name of a value's type -/
def tyName : PV → Option String
  | .non => some "NoneType"
  | .bl _ => some "bool"
  | .int _ => some "int"
  | .str _ => some "str"
  | .tup _ => some "tuple"
  | .lst _ => some "list"
  | _ => none
def isaB (t T : String) : Bool := decide (t = T) || (decide (t = "bool") && decide (T = "int"))
def tyNameD : PV → Option String
  | .dct _ _ => some "dict"
  | p => tyName p
def pIsI (Ts : List String) (p : PV) : Option PV := (tyNameD p).map fun t => .bl (Ts.any (isaB t))
def ints? : List PV → Option (List Int)
  | [] => some []
  | .int s :: r => (ints? r).map fun l => s :: l
  | _ => none
def bls? : List PV → Option (List Bool)
  | [] => some []
  | .bl s :: r => (bls? r).map fun l => s :: l
  | _ => none
def nSum : List PV → Option PV
  | [.lst xs] => (ints? xs).map fun l => .int l.sum
  | _ => none
def nAll : List PV → Option PV
  | [.lst xs] => (bls? xs).map fun l => .bl (l.all id)
  | _ => none
/-- sorted, of pairs of an int and a text: stable, by insertion -/
def pairIS : PV → Option (Int × List Nat)
  | .tup [.int i, .str s] => some (i, s)
  | _ => none
def ltIS (p q : Int × List Nat) : Bool := if p.1 = q.1 then decide (p.2 < q.2) else decide (p.1 < q.1)
def insBy {α : Type} (lt : α → α → Bool) (x : α) : List α → List α
  | [] => [x]
  | y :: ys => if lt y x then y :: insBy lt x ys else x :: y :: ys
def isort {α : Type} (lt : α → α → Bool) : List α → List α
  | [] => []
  | x :: xs => insBy lt x (isort lt xs)
def pairsIS : List PV → Option (List (Int × List Nat))
  | [] => some []
  | x :: xs => (pairIS x).bind fun p => (pairsIS xs).map fun ps => p :: ps
def nSortIS : List PV → Option PV
  | [.lst xs] => (pairsIS xs).map fun l => .lst ((isort ltIS l).map fun p => .tup [.int p.1, .str p.2])
  | _ => none
/-- s.join(..) -/
def joinL (a : List Nat) : List (List Nat) → List Nat
  | [] => []
  | [x] => x
  | x :: y :: r => x ++ a ++ joinL a (y :: r)
def pJoin : PV → PV → Option PV
  | .str a, .lst xs => (strs? xs).bind fun l => if (l.map List.length).sum + l.length * a.length ≤ lim then some (.str (joinL a l)) else none
  | _, _ => none
def eJoin (m n : EM) : EM := fun ρ st => (m ρ st).bind fun p st1 => match p with
  | .str a => (n ρ st1).bind fun q st2 => R.ofOpt (pJoin (.str a) q) st2
  | _ => .bad
/-- a table of texts at a text -/
def tabGet (tab : List (List Nat × List Nat)) (s : List Nat) : Option (List Nat) := (tab.find? fun q => decide (q.1 = s)).map (·.2)
def pTab (tab : List (List Nat × List Nat)) : PV → Option PV
  | .str s => (tabGet tab s).map PV.str
  | _ => none
def eTab (tab : List (List Nat × List Nat)) (m : EM) : EM := eOp1 (pTab tab) m
def sNil : SM := fun ρ st => .next ρ st
def sSeq (a b : SM) : SM := fun ρ st => match a ρ st with
  | .next ρ1 st1 => b ρ1 st1
  | r => r
def sIf (c : BM) (a b : SM) : SM := fun ρ st => (c ρ st).bindS ρ fun k st1 => if k then a ρ st1 else b ρ st1
def sSet (i : Nat) (m : FM) : SM := fun ρ st => (m ρ st).bindS ρ fun v st1 => .next (ρ.set i v) st1
def sRet (m : FM) : SM := fun ρ st => (m ρ st).bindS ρ fun v st1 => .ret v st1
def sRetN : SM := fun _ st => .ret (.val .non) st
/-- return of a name that holds a list of its own, or a value -/
def sRetV (i : Nat) : SM := fun ρ st => match ρ[i]? with
  | some (.val p) => .ret (.val p) st
  | some (.own xs) => .ret (.own xs) st
  | _ => .bad
def sDrop (m : EM) : SM := fun ρ st => (m ρ st).bindS ρ fun _ st1 => .next ρ st1
def sAsg (m : EM) (g : GM) : SM := fun ρ st => (m ρ st).bindS ρ fun p st1 => match g p ρ st1 with
  | some (ρ2, st2) => .next ρ2 st2
  | none => .bad
/-- a, b = x, y -/
def sPar (i j : Nat) (a b : FM) : SM := fun ρ st => (a ρ st).bindS ρ fun v st1 => (b ρ st1).bindS ρ fun w st2 => .next ((ρ.set i v).set j w) st2
def sPar3 (i j l : Nat) (a b c : FM) : SM := fun ρ st => (a ρ st).bindS ρ fun v st1 => (b ρ st1).bindS ρ fun w st2 => (c ρ st2).bindS ρ fun z st3 => .next (((ρ.set i v).set j w).set l z) st3
/-- a list of its own: frozen, grown -/
def sFrz (i : Nat) : SM := fun ρ st => match ρ[i]? with
  | some (.own xs) => .next (ρ.set i (.val (.lst xs))) st
  | _ => .bad
def sApp (i : Nat) (m : EM) : SM := fun ρ st => match ρ[i]? with
  | some (.own xs) => (m ρ st).bindS ρ fun p st1 => if xs.length < lim then .next (ρ.set i (.own (xs ++ [p]))) st1 else .bad
  | _ => .bad
def sExt (i : Nat) (m : EM) : SM := fun ρ st => match ρ[i]? with
  | some (.own xs) => (m ρ st).bindS ρ fun p st1 => (match p with
    | .lst ys => if xs.length + ys.length ≤ lim then .next (ρ.set i (.own (xs ++ ys))) st1 else .bad
    | _ => .bad)
  | _ => .bad
/-- x[k] = e of such a list -/
def sSetIx (i : Nat) (m k : EM) : SM := fun ρ st => (m ρ st).bindS ρ fun p st1 => match ρ[i]? with
  | some (.own xs) => (k ρ st1).bindS ρ fun q st2 => (match q with
    | .int z => (match L2.ixN xs.length z with
      | some n => .next (ρ.set i (.own (xs.set n p))) st2
      | none => .bad)
    | _ => .bad)
  | _ => .bad
/-- looks at such a list -/
def eOwn (i : Nat) (f : List PV → Option PV) : EM := fun ρ st => match ρ[i]? with
  | some (.own xs) => R.ofOpt (f xs) st
  | _ => .bad
def eOwn1 (i : Nat) (f : List PV → PV → Option PV) (m : EM) : EM := fun ρ st => match ρ[i]? with
  | some (.own xs) => (m ρ st).bind fun p st1 => R.ofOpt (f xs p) st1
  | _ => .bad
/-- slices -/
def cutG {α : Type} (xs : List α) (lo hi : Option Int) : List α := (xs.drop (HT.sIx xs.length 0 lo)).take (HT.sIx xs.length xs.length hi - HT.sIx xs.length 0 lo)
/-- an optional part of a slice -/
abbrev OM := Env → Store → R (Option Int)
def oNone : OM := fun _ st => .ok none st
def oSome (m : EM) : OM := fun ρ st => (m ρ st).bind fun p st1 => match p with
  | .int i => .ok (some i) st1
  | _ => .bad
def pCut : PV → Option Int → Option Int → Option PV
  | .tup xs, lo, hi => some (.tup (cutG xs lo hi))
  | .lst xs, lo, hi => some (.lst (cutG xs lo hi))
  | .str s, lo, hi => if s.length ≤ lim then some (.str (cutG s lo hi)) else none
  | _, _, _ => none
/-- the same of a list of a name's own: a new list -/
def fCutOwn (i : Nat) (lo hi : OM) : FM := fun ρ st => match ρ[i]? with
  | some (.own xs) => (lo ρ st).bind fun l st2 => (hi ρ st2).bind fun h st3 => .ok (.own (cutG xs l h)) st3
  | _ => .bad
/-- looks at a list of a name's own -/
def eLenOwn (i : Nat) : EM := eOwn i fun xs => some (.int xs.length)
def eIdxOwn (i : Nat) (m : EM) : EM := eOwn1 i (fun xs p => pIdx (.lst xs) p) m
def eTupOwn (i : Nat) : EM := eOwn i fun xs => some (.tup xs)
/-- x == [], x != [] of such a list -/
def eEmpOwn (i : Nat) (neg : Bool) : EM := eOwn i fun xs => if plains 7 xs then some (.bl (if neg then !xs.isEmpty else xs.isEmpty)) else none
def look2 : List Str → List PV → Str → Option PV
  | n :: ns, v :: vs, f => if n = f then some v else look2 ns vs f
  | _, _, _ => none
def put2 : List Str → List PV → Str → PV → List Str × List PV
  | n :: ns, v :: vs, f, p => if n = f then (n :: ns, p :: vs) else let r := put2 ns vs f p; (n :: r.1, v :: r.2)
  | ns, vs, f, p => (ns ++ [f], vs ++ [p])
/-- the attributes of an instance of the class cl: of a value, of the store -/
def insOf (cl : Nat) (p : PV) (st : Store) : Option (List Str × List PV) := match p with
  | .ins c ns vs => if c = cl then some (ns, vs) else none
  | .ref i => (match st[i]? with
    | some (.ins c ns vs) => if c = cl then some (ns, vs) else none
    | _ => none)
  | _ => none
/-- o.f -/
def eAttr (cl : Nat) (f : Str) (m : EM) : EM := fun ρ st => (m ρ st).bind fun p st1 => match insOf cl p st1 with
  | some (ns, vs) => R.ofOpt (look2 ns vs f) st1
  | none => .bad
/-- o.m(..) -/
def fMeth (call : CallT) (id cl : Nat) (f : Str) (o : EM) (ar : AM) : FM := fun ρ st => (o ρ st).bind fun p st1 => match insOf cl p st1 with
  | some (ns, vs) => (match look2 ns vs f with
    | none => (ar ρ st1).bind fun ps st2 => call id (p :: ps) st2
    | some _ => .bad)
  | none => .bad
/-- o.f, a property -/
def fProp (call : CallT) (id cl : Nat) (o : EM) : FM := fun ρ st => (o ρ st).bind fun p st1 => match insOf cl p st1 with
  | some _ => (call id [p] st1).noex
  | none => .bad
/-- an instance that is being made, at a name: self.f, self.f = e -/
def eSelf (cl i : Nat) (f : Str) : EM := fun ρ st => match ρ[i]? with
  | some (.ins c ns vs) => if c = cl then R.ofOpt (look2 ns vs f) st else .bad
  | _ => .bad
def sSelf (cl i : Nat) (f : Str) (m : EM) : SM := fun ρ st => (m ρ st).bindS ρ fun p st1 => match ρ[i]? with
  | some (.ins c ns vs) => if c = cl ∧ ns.length < 100 then .next (ρ.set i (.ins c (put2 ns vs f p).1 (put2 ns vs f p).2)) st1 else .bad
  | _ => .bad
def gSelf (cl i : Nat) (f : Str) : GM := fun p ρ st => match ρ[i]? with
  | some (.ins c ns vs) => if c = cl ∧ ns.length < 100 then some (ρ.set i (.ins c (put2 ns vs f p).1 (put2 ns vs f p).2), st) else none
  | _ => none
/-- an instance of the store: o.f = e, o.f += e, o.f -= e -/
def putAt (st : Store) (cl : Nat) (p : PV) (f : Str) (q : PV) : Option Store := match p with
  | .ref i => (match st[i]? with
    | some (.ins c ns vs) => if c = cl then (if ns.length < 100 then some (st.set i (.ins c (put2 ns vs f q).1 (put2 ns vs f q).2)) else none) else none
    | _ => none)
  | _ => none
def sAttrAug (g : PV → PV → Option PV) (cl : Nat) (f : Str) (o m : EM) : SM := fun ρ st => (o ρ st).bindS ρ fun p st1 => match insOf cl p st1 with
  | some (ns, vs) => (match look2 ns vs f with
    | some old => (m ρ st1).bindS ρ fun q st2 => (match g old q with
      | some z => (match putAt st2 cl p f z with
        | some st3 => .next ρ st3
        | none => .bad)
      | none => .bad)
    | none => .bad)
  | none => .bad
/-- C(..): a value (rf = false), an object of the store (rf = true). ini: __init__ -/
def fMake (call : CallT) (id : Nat) (rf : Bool) (ar : AM) : FM := fun ρ st => (ar ρ st).bind fun ps st1 => (call id ps st1).bind fun v st2 => match v with
  | .ins c ns vs => if rf then .ok (.val (.ref st2.length)) (st2 ++ [.ins c ns vs]) else .ok (.val (.ins c ns vs)) st2
  | _ => .bad
/-- a fresh list becomes an object of the store -/
def eNewL (m : FM) : EM := fun ρ st => (m ρ st).bind fun v st1 => match v with
  | .own xs => .ok (.ref st1.length) (st1 ++ [.lst xs])
  | _ => .bad
def lstAt (p : PV) (st : Store) : Option (List PV) := match p with
  | .ref i => (match st[i]? with
    | some (.lst xs) => some xs
    | _ => none)
  | _ => none
/-- an operation that looks at lists of the store -/
def eOp1S (f : PV → Store → Option PV) (m : EM) : EM := fun ρ st => (m ρ st).bind fun p st1 => R.ofOpt (f p st1) st1
def eOp2S (f : PV → PV → Store → Option PV) (m n : EM) : EM := fun ρ st => (m ρ st).bind fun p st1 => (n ρ st1).bind fun q st2 => R.ofOpt (f p q st2) st2
def pIdxS (p q : PV) (st : Store) : Option PV := match p with
  | .ref i => (lstAt (.ref i) st).bind fun xs => pIdx (.lst xs) q
  | p => pIdx p q
def nLenS (p : PV) (st : Store) : Option PV := match p with
  | .ref i => (lstAt (.ref i) st).map fun xs => .int xs.length
  | p => nLen [p]
def pCutS (p : PV) (lo hi : Option Int) (st : Store) : Option PV := match p with
  | .ref i => (lstAt (.ref i) st).map fun xs => .lst (cutG xs lo hi)
  | p => pCut p lo hi
def eCutS (m : EM) (lo hi : OM) : EM := fun ρ st => (m ρ st).bind fun p st1 => (lo ρ st1).bind fun l st2 => (hi ρ st2).bind fun h st3 => R.ofOpt (pCutS p l h st3) st3
/-- list(..): a new list -/
def listOf (p : PV) (st : Store) : Option (List PV) := match p with
  | .ref i => lstAt (.ref i) st
  | .lst xs => some xs
  | .tup xs => some xs
  | _ => none
def fList (m : EM) : FM := fun ρ st => (m ρ st).bind fun p st1 => match listOf p st1 with
  | some xs => .ok (.own xs) st1
  | none => .bad
def putL (st : Store) (p : PV) (xs : List PV) : Option Store := match p with
  | .ref i => some (st.set i (.lst xs))
  | _ => none
/-- o[k] = e -/
def sSetIxL (o m k : EM) : SM := fun ρ st => (m ρ st).bindS ρ fun p st1 => (o ρ st1).bindS ρ fun r st2 => (k ρ st2).bindS ρ fun q st3 => match lstAt r st3, q with
  | some xs, .int z => (match L2.ixN xs.length z with
    | some n => (match putL st3 r (xs.set n p) with
      | some st4 => .next ρ st4
      | none => .bad)
    | none => .bad)
  | _, _ => .bad
/-- o.append(e) -/
def sAppL (o m : EM) : SM := fun ρ st => (o ρ st).bindS ρ fun r st1 => if (lstAt r st1).isSome then (m ρ st1).bindS ρ fun p st2 => (match lstAt r st2 with
  | some xs => if xs.length < lim then (match putL st2 r (xs ++ [p]) with
    | some st3 => .next ρ st3
    | none => .bad) else .bad
  | none => .bad) else .bad
/-- o.pop() -/
def sPopL (o : EM) : SM := fun ρ st => (o ρ st).bindS ρ fun r st1 => match lstAt r st1 with
  | some xs => if xs.length = 0 then .bad else (match putL st1 r xs.dropLast with
    | some st2 => .next ρ st2
    | none => .bad)
  | none => .bad
def gName (i : Nat) : GM := fun p ρ st => some (ρ.set i (.val p), st)
def gEach : List GM → List PV → Env → Store → Option (Env × Store)
  | [], [], ρ, st => some (ρ, st)
  | g :: gs, p :: ps, ρ, st => (g p ρ st).bind fun z => gEach gs ps z.1 z.2
  | _, _, _, _ => none
def gTup (gs : List GM) : GM := fun p ρ st => match p with
  | .tup ps => gEach gs ps ρ st
  | .wt ps => gEach gs ps ρ st
  | .lst ps => gEach gs ps ρ st
  | _ => none
def forGo (g : GM) (body : SM) : List PV → Env → Store → SR
  | [], ρ, st => .next ρ st
  | x :: xs, ρ, st => match g x ρ st with
    | none => .bad
    | some (ρ1, st1) => match body ρ1 st1 with
      | .next ρ2 st2 => forGo g body xs ρ2 st2
      | .cnt ρ2 st2 => forGo g body xs ρ2 st2
      | .brk ρ2 st2 => .next ρ2 st2
      | r => r
def sFor (m : AM) (g : GM) (body : SM) : SM := fun ρ st => (m ρ st).bindS ρ fun xs st1 => forGo g body xs ρ st1
def whileGo (c : BM) (body : SM) : Nat → Env → Store → SR
  | 0, _, _ => .bad
  | n + 1, ρ, st => (c ρ st).bindS ρ fun k st1 => if k then (match body ρ st1 with
      | .next ρ2 st2 => whileGo c body n ρ2 st2
      | .cnt ρ2 st2 => whileGo c body n ρ2 st2
      | .brk ρ2 st2 => .next ρ2 st2
      | r => r) else .next ρ st1
@[irreducible] def fuel : Nat := 2 ^ 20000
def sWhile (c : BM) (body : SM) : SM := whileGo c body fuel
/-- what is walked -/
def itemsOf : PV → Option (List PV)
  | .tup xs => some xs
  | .lst xs => some xs
  | .str s => some (s.map fun c => .str [c])
  | _ => none
def wItems (m : EM) : AM := fun ρ st => (m ρ st).bind fun p st1 => R.ofOpt (itemsOf p) st1
def big62 (i : Int) : Bool := decide (-(2 ^ 62) ≤ i ∧ i < 2 ^ 62)
def upInts (lo : Int) : Nat → List PV
  | 0 => []
  | n + 1 => .int lo :: upInts (lo + 1) n
def downInts (lo : Int) : Nat → List PV
  | 0 => []
  | n + 1 => .int lo :: downInts (lo - 1) n
def rng1 (p : PV) : Option (List PV) := match p with
  | .int j => if big62 j then some (upInts 0 j.toNat) else none
  | _ => none
def rng2 (p q : PV) : Option (List PV) := match p, q with
  | .int i, .int j => some (upInts i (j - i).toNat)
  | _, _ => none
def rngDown (p q : PV) : Option (List PV) := match p, q with
  | .int i, .int j => if big62 i && big62 j then some (downInts i (i - j).toNat) else none
  | _, _ => none
def wRng1 (m : EM) : AM := fun ρ st => (m ρ st).bind fun p st1 => R.ofOpt (rng1 p) st1
def wRng2 (m n : EM) : AM := fun ρ st => (m ρ st).bind fun p st1 => (n ρ st1).bind fun q st2 => R.ofOpt (rng2 p q) st2
def wRngD (m n : EM) : AM := fun ρ st => (m ρ st).bind fun p st1 => (n ρ st1).bind fun q st2 => R.ofOpt (rngDown p q) st2
/-- zip of two of a kind -/
def zipPV (xs ys : List PV) : List PV := (xs.zip ys).map fun q => .wt [q.1, q.2]
def zipOf : PV → PV → Option (List PV)
  | .lst xs, .lst ys => some (zipPV xs ys)
  | .tup xs, .tup ys => some (zipPV xs ys)
  | _, _ => none
def wZip (m n : EM) : AM := fun ρ st => (m ρ st).bind fun p st1 => (n ρ st1).bind fun q st2 => R.ofOpt (zipOf p q) st2
/-- a comprehension -/
def lcGo (g : GM) (t : BM) (e : EM) (ρ : Env) : List PV → List PV → Store → R (List PV)
  | [], acc, st => .ok acc st
  | x :: xs, acc, st => match g x ρ st with
    | none => .bad
    | some (ρ1, st1) => (t ρ1 st1).noex.bind fun k st2 => if k then (e ρ1 st2).noex.bind fun p st3 => (if acc.length < lim then lcGo g t e ρ xs (acc ++ [p]) st3 else .bad) else lcGo g t e ρ xs acc st2
def wipeE (ρ : Env) : List Nat → Env
  | [] => ρ
  | v :: vs => (wipeE ρ vs).set v .un
def fLc (w : AM) (own : List Nat) (g : GM) (t : BM) (e : EM) : FM := fun ρ st => (w ρ st).bind fun xs st1 => (lcGo g t e (wipeE ρ own) xs [] st1).bind fun ys st2 => .ok (.own ys) st2
def tYes : BM := fun _ st => .ok true st
/-- match m: case strings: block -/
def matchGo : List (List (List Nat) × SM) → List Nat → SM
  | [], _ => fun ρ st => .next ρ st
  | (ps, b) :: r, s => fun ρ st => if ps.any (fun p => decide (p = s)) then b ρ st else matchGo r s ρ st
def sMatch (m : EM) (cs : List (List (List Nat) × SM)) : SM := fun ρ st => (m ρ st).bindS ρ fun p st1 => match p with
  | .str s => matchGo cs s ρ st1
  | _ => .bad
/-- raise C(m), C's __init__ keeping m as f; raise C() -/
def sRaise1 (cl : Nat) (f : Str) (m : EM) : SM := fun ρ st => (m ρ st).bindS ρ fun p st1 => .ex cl [f] [p] ρ st1
def sRaise0 (cl : Nat) : SM := fun ρ st => .ex cl [] [] ρ st
def SR.noex : SR → SR
  | .ex _ _ _ _ _ => .bad
  | r => r
/-- the clauses of a try: which classes, the suite -/
def handleGo : List ((Nat → Option Bool) × SM) → Nat → List Str → List PV → Env → Store → SR
  | [], cl, ns, vs, ρ, st => .ex cl ns vs ρ st
  | (t, n) :: r, cl, ns, vs, ρ, st => match t cl with
    | some true => (n ρ st).noex
    | some false => handleGo r cl ns vs ρ st
    | none => .bad
def sTry (b : SM) (hs : List ((Nat → Option Bool) × SM)) : SM := fun ρ st => match b ρ st with
  | .ex cl ns vs ρ1 st1 => handleGo hs cl ns vs ρ1 st1
  | r => r
structure Fn where
  ps : Nat
  n : Nat
  /-- an __init__ of the class: its self is no argument -/
  ini : Option Nat := none
  body : CallT → SM
def startE (f : Fn) (args : List PV) : Env := match f.ini with
  | none => args.map .val ++ List.replicate (f.n - f.ps) .un
  | some c => .ins c [] [] :: (args.map .val ++ List.replicate (f.n - (f.ps + 1)) .un)
def finish (r : SR) : R SV := match r with
  | .next _ st1 => .ok (.val .non) st1
  | .ret v st1 => .ok v st1
  | .ex c ns vs _ st1 => .ex c ns vs st1
  | _ => .bad
/-- what __init__ made (no return in it) -/
def finishI (r : SR) : R SV := match r with
  | .next ρ st1 => (match (ρ.head? : Option SV) with
    | some (.ins c ns vs) => .ok (.ins c ns vs) st1
    | _ => .bad)
  | .ex c ns vs _ st1 => .ex c ns vs st1
  | _ => .bad
def runFn (T : Nat → Option Fn) : Nat → CallT
  | 0 => fun _ _ _ => .bad
  | k + 1 => fun id args st => match T id with
    | none => .bad
    | some f => if args.length = f.ps then (match f.ini with
      | none => finish (f.body (runFn T k) (startE f args) st)
      | some _ => finishI (f.body (runFn T k) (startE f args) st)) else .bad
end BR
set_option Elab.async false
set_option linter.all false
set_option maxRecDepth 100000
namespace BR
open PySem PySem.Spec PyProof.Rows L2
/-- what does not change through a run: the program, the world, the written part, where the classes stand -/
structure Cn where
  P : Program
  w : World
  K : PySem.W.Frag
  cm : Nat → Option Addr
/-- the ghosts: what is frozen, where the store's objects stand -/
structure Gh where
  fz : Hp
  io : List Addr
mutual
def nkey : PV → Option NestedKey
  | .non => some .none
  | .int i => some (.num i)
  | .str s => some (.text ⟨s.toArray⟩)
  | .tup xs => (nkeys xs).map NestedKey.tup
  | _ => none
def nkeys : List PV → Option (List NestedKey)
  | [] => some []
  | x :: xs => (nkey x).bind fun k => (nkeys xs).map fun ks => k :: ks
end
/-- the key of a dict: a tuple of ints, texts, None and such tuples -/
def kd : PV → Option NestedKey
  | .tup xs => (nkeys xs).bind fun ks => if NestedKey.depthAll ks < 8 then some (.tup ks) else none
  | _ => none
/-- an entry of a dict: the key, where the key's tuple stands, the value -/
abbrev DE := NestedKey × Addr × V
def DEOk (e : DE) (x : NestedKey × Addr × Value) : Prop := e.1 = x.1 ∧ e.2.1 = x.2.1 ∧ RelV e.2.2 x.2.2
/-- a dict with keys that are tuples, by its one object -/
def DOn (P : Program) (w : World) (a : Addr) (es : List DE) (h : Heap) : Prop :=
  (a == sysModules) = false ∧ es.length ≤ sizeLine ∧ (es.map fun e => e.1).Nodup ∧ ∃ xs : List (NestedKey × Addr × Value), Paired DEOk es xs ∧ ∃ o tab ep, h.get? a = some o ∧ o.ExactDict ∧ o.data = .dict tab ep ∧ tab.toList = xs.map (entryOfKey (nestedKind P w))
def DHO (P : Program) (w : World) (a : Addr) (es : List DE) : HO := .ext (DOn P w a es)
/-- a tuple that was made here: it has no attributes of its own -/
abbrev tupO (o : Obj) (vs : List V) : HO := .frz o (.tup vs)
def TupN (fz : Hp) (a : Addr) (vs : List V) : Prop := ∃ o : Obj, fz a = some (tupO o vs) ∧ o.dict = none
mutual
inductive RepV (c : Cn) (G : Gh) : V → PV → Prop
  | non : RepV c G .non .non
  | bl {b : Bool} : RepV c G (.bl b) (.bl b)
  | int {i : Int} : RepV c G (.int i) (.int i)
  | str {s : List Nat} : RepV c G (.str ⟨s.toArray⟩) (.str s)
  | tup {a : Addr} {vs : List V} {ps : List PV} : TupN G.fz a vs → RepVs c G vs ps → RepV c G (.ref a) (.tup ps)
  | wt {a : Addr} {vs : List V} {ps : List PV} : SqT c.K G.fz a vs → RepVs c G vs ps → RepV c G (.ref a) (.wt ps)
  | lst {a : Addr} {vs : List V} {ps : List PV} : G.fz a = some (.lst vs) → RepVs c G vs ps → RepV c G (.ref a) (.lst ps)
  | scr {a : Addr} {ns : List Int} : SqL c.K G.fz a (ns.map V.int) → RepV c G (.ref a) (.scr ns)
  | dct {a : Addr} {es : List DE} {ks vs : List PV} : G.fz a = some (DHO c.P c.w a es) → ks.map kd = es.map (fun e => some e.1) → RepVs c G (es.map fun e => V.ref e.2.1) ks → RepVs c G (es.map fun e => e.2.2) vs → RepV c G (.ref a) (.dct ks vs)
  | ins {a C dx : Addr} {cl : Nat} {fvs : List (Str × V)} {ns : List Str} {vs : List PV} : G.fz a = some (.ins C dx fvs) → c.cm cl = some C → fvs.map (·.1) = ns → RepVs c G (fvs.map (·.2)) vs → RepV c G (.ref a) (.ins cl ns vs)
  | ref {a : Addr} {i : Nat} : G.io[i]? = some a → RepV c G (.ref a) (.ref i)
inductive RepVs (c : Cn) (G : Gh) : List V → List PV → Prop
  | nil : RepVs c G [] []
  | cons {v : V} {p : PV} {vs : List V} {ps : List PV} : RepV c G v p → RepVs c G vs ps → RepVs c G (v :: vs) (p :: ps)
end
/-- more is frozen, more is stored -/
structure GExt (G G' : Gh) : Prop where
  fz : ∀ (a : Addr) (o : HO), G.fz a = some o → G'.fz a = some o
  io : ∀ (i : Nat) (a : Addr), G.io[i]? = some a → G'.io[i]? = some a
theorem GExt.refl (G : Gh) : GExt G G := ⟨fun _ _ h => h, fun _ _ h => h⟩
theorem GExt.trans {G G1 G2 : Gh} (a : GExt G G1) (b : GExt G1 G2) : GExt G G2 := ⟨fun x o h => b.fz x o (a.fz x o h), fun i x h => b.io i x (a.io i x h)⟩
theorem rd_fz {fz fz' : Hp} (e : ∀ a o, fz a = some o → fz' a = some o) {a : Addr} {u : HO} (h : Rd fz a u) : Rd fz' a u := by
  rcases h with h | ⟨o, h⟩
  · exact .inl (e _ _ h)
  · exact .inr ⟨o, e _ _ h⟩
theorem sqT_fz {K : PySem.W.Frag} {fz fz' : Hp} (e : ∀ a o, fz a = some o → fz' a = some o) {a : Addr} {vs : List V} (h : SqT K fz a vs) : SqT K fz' a vs := by
  rcases h with h | h
  · exact .inl (rd_fz e h)
  · exact .inr h
theorem TupN.up {fz fz' : Hp} {a : Addr} {vs : List V} (h : TupN fz a vs) (e : ∀ a o, fz a = some o → fz' a = some o) : TupN fz' a vs := by
  obtain ⟨o, h1, h2⟩ := h
  exact ⟨o, e _ _ h1, h2⟩
theorem TupN.sq {K : PySem.W.Frag} {fz : Hp} {a : Addr} {vs : List V} (h : TupN fz a vs) : SqT K fz a vs := by
  obtain ⟨o, h1, h2⟩ := h
  exact .inl (.inr ⟨o, h1⟩)
theorem sqL_fz {K : PySem.W.Frag} {fz fz' : Hp} (e : ∀ a o, fz a = some o → fz' a = some o) {a : Addr} {vs : List V} (h : SqL K fz a vs) : SqL K fz' a vs := by
  rcases h with h | h
  · exact .inl (rd_fz e h)
  · exact .inr h
mutual
theorem RepV.mono {c : Cn} {G G' : Gh} (e : GExt G G') : ∀ (p : PV) (v : V), RepV c G v p → RepV c G' v p
  | .non, _, h => by cases h; exact .non
  | .bl _, _, h => by cases h; exact .bl
  | .int _, _, h => by cases h; exact .int
  | .str _, _, h => by cases h; exact .str
  | .tup ps, _, h => by
    cases h with
    | tup h1 h2 => exact .tup (h1.up e.fz) (RepVs.mono e ps _ h2)
  | .wt ps, _, h => by
    cases h with
    | wt h1 h2 => exact .wt (sqT_fz e.fz h1) (RepVs.mono e ps _ h2)
  | .lst ps, _, h => by
    cases h with
    | lst h1 h2 => exact .lst (e.fz _ _ h1) (RepVs.mono e ps _ h2)
  | .scr _, _, h => by
    cases h with
    | scr h1 => exact .scr (sqL_fz e.fz h1)
  | .dct ks vs, _, h => by
    cases h with
    | dct h1 h2 h3 h4 => exact .dct (e.fz _ _ h1) h2 (RepVs.mono e ks _ h3) (RepVs.mono e vs _ h4)
  | .ins _ _ vs, _, h => by
    cases h with
    | ins h1 h2 h3 h4 => exact .ins (e.fz _ _ h1) h2 h3 (RepVs.mono e vs _ h4)
  | .ref _, _, h => by
    cases h with
    | ref h1 => exact .ref (e.io _ _ h1)
theorem RepVs.mono {c : Cn} {G G' : Gh} (e : GExt G G') : ∀ (ps : List PV) (vs : List V), RepVs c G vs ps → RepVs c G' vs ps
  | [], _, h => by cases h; exact .nil
  | p :: ps, _, h => by
    cases h with
    | cons h1 h2 => exact .cons (RepV.mono e p _ h1) (RepVs.mono e ps _ h2)
end
theorem RepV.up {c : Cn} {G G' : Gh} {v : V} {p : PV} (h : RepV c G v p) (e : GExt G G') : RepV c G' v p := RepV.mono e p v h
theorem RepVs.up {c : Cn} {G G' : Gh} {vs : List V} {ps : List PV} (h : RepVs c G vs ps) (e : GExt G G') : RepVs c G' vs ps := RepVs.mono e ps vs h
theorem RepVs.len {c : Cn} {G : Gh} : ∀ {vs : List V} {ps : List PV}, RepVs c G vs ps → vs.length = ps.length
  | _, _, .nil => rfl
  | _, _, .cons _ t => by simp [RepVs.len t]
theorem RepVs.get {c : Cn} {G : Gh} : ∀ {vs : List V} {ps : List PV} {i : Nat} {p : PV}, RepVs c G vs ps → ps[i]? = some p → ∃ v, vs[i]? = some v ∧ RepV c G v p
  | _, _, _, _, .nil, e => by simp at e
  | _, _, 0, _, .cons r _, e => by simp at e; subst e; exact ⟨_, rfl, r⟩
  | _, _, i + 1, _, .cons _ t, e => by
    obtain ⟨v, h1, h2⟩ := RepVs.get (i := i) t (by simpa using e)
    exact ⟨v, by simpa using h1, h2⟩
theorem RepVs.app {c : Cn} {G : Gh} : ∀ {vs ws : List V} {ps qs : List PV}, RepVs c G vs ps → RepVs c G ws qs → RepVs c G (vs ++ ws) (ps ++ qs)
  | _, _, _, _, .nil, s => s
  | _, _, _, _, .cons r t, s => .cons r (RepVs.app t s)
theorem RepVs.setN {c : Cn} {G : Gh} {v : V} {p : PV} (r : RepV c G v p) : ∀ {vs : List V} {ps : List PV} (i : Nat), RepVs c G vs ps → RepVs c G (vs.set i v) (ps.set i p)
  | _, _, _, .nil => .nil
  | _, _, 0, .cons _ t => .cons r t
  | _, _, i + 1, .cons q t => .cons q (RepVs.setN r i t)
structure Stp (G : Gh) (H : Hp) (G' : Gh) (H' : Hp) : Prop extends GExt G G' where
  keep : ∀ (a : Addr) (o : HO), H a = some o → a ∉ G.io → H' a = some o
  live : ∀ (a : Addr) (o : HO), H a = some o → ∃ o', H' a = some o'
  nfz : ∀ (a : Addr) (o : HO), H a = some o → G.fz a = none → G'.fz a = none
  nio : ∀ (a : Addr) (o : HO), H a = some o → a ∉ G.io → a ∉ G'.io
theorem Stp.refl (G : Gh) (H : Hp) : Stp G H G H := ⟨.refl G, fun _ _ h _ => h, fun _ o h => ⟨o, h⟩, fun _ _ _ h => h, fun _ _ _ h => h⟩
theorem Stp.trans {G G1 G2 : Gh} {H H1 H2 : Hp} (a : Stp G H G1 H1) (b : Stp G1 H1 G2 H2) : Stp G H G2 H2 where
  toGExt := a.toGExt.trans b.toGExt
  keep := fun x o h n => b.keep x o (a.keep x o h n) (a.nio x o h n)
  live := fun x o h => let ⟨o1, h1⟩ := a.live x o h; b.live x o1 h1
  nfz := fun x o h n => let ⟨o1, h1⟩ := a.live x o h; b.nfz x o1 h1 (a.nfz x o h n)
  nio := fun x o h n => b.nio x o (a.keep x o h n) (a.nio x o h n)
theorem Stp.free {G G' : Gh} {H H' : Hp} (s : Stp G H G' H') {a : Addr} (h : H' a = none) : H a = none := by
  cases e : H a with
  | none => rfl
  | some o =>
    obtain ⟨o', q⟩ := s.live a o e
    rw [h] at q
    cases q
def SObj (c : Cn) (G : Gh) (H : Hp) (a : Addr) : SO → Prop
  | .lst ps => ∃ vs, H a = some (.lst vs) ∧ RepVs c G vs ps
  | .ins cl ns ps => ∃ C dx fvs, H a = some (.ins C dx fvs) ∧ c.cm cl = some C ∧ fvs.map (·.1) = ns ∧ RepVs c G (fvs.map (·.2)) ps
/-- the store -/
structure SRel (c : Cn) (H : Hp) (st : Store) (G : Gh) : Prop where
  fzH : ∀ (a : Addr) (o : HO), G.fz a = some o → H a = some o
  nd : ∀ (i j : Nat) (a : Addr), G.io[i]? = some a → G.io[j]? = some a → i = j
  iofz : ∀ a ∈ G.io, G.fz a = none
  len : G.io.length = st.length
  obj : ∀ (i : Nat) (a : Addr) (o : SO), G.io[i]? = some a → st[i]? = some o → SObj c G H a o
/-- the entry of the def that runs: its ghosts, its heap (without an instance that is being made) -/
structure Bs where
  G : Gh
  H : Hp
  self : Option Addr := none
def SlotOk (c : Cn) (B : Bs) (G : Gh) (H : Hp) (x : Option V) : SV → Prop
  | .un => True
  | .val p => ∃ v, x = some v ∧ RepV c G v p
  | .own ps => ∃ a vs, x = some (.ref a) ∧ H a = some (.lst vs) ∧ RepVs c G vs ps ∧ G.fz a = none ∧ a ∉ G.io ∧ B.H a = none
  | .ins cl ns ps => ∃ a C dx fvs, x = some (.ref a) ∧ B.self = some a ∧ H a = some (.ins C dx fvs) ∧ c.cm cl = some C ∧ fvs.map (·.1) = ns ∧ RepVs c G (fvs.map (·.2)) ps ∧ G.fz a = none ∧ a ∉ G.io ∧ B.H a = none
def SV.isOwn : SV → Bool
  | .own _ => true
  | .ins _ _ _ => true
  | _ => false
structure Rel (c : Cn) (B : Bs) (σ : L2.St) (ρ : Env) (H : Hp) (st : Store) (G : Gh) : Prop extends SRel c H st G where
  base : Stp B.G B.H G H
  len2 : ρ.length = σ.length
  slot : ∀ (i : Nat) (sv : SV) (x : Option V), ρ[i]? = some sv → σ[i]? = some x → SlotOk c B G H x sv
  dist : ∀ (i j : Nat) (sv sw : SV) (a : Addr), ρ[i]? = some sv → ρ[j]? = some sw → sv.isOwn = true → sw.isOwn = true → σ[i]? = some (some (.ref a)) → σ[j]? = some (some (.ref a)) → i = j
section
variable {c : Cn} {B : Bs} {σ : L2.St} {ρ : Env} {H H' : Hp} {st st' : Store} {G G' : Gh}
theorem SlotOk.step {x : Option V} {sv : SV} (s : Stp G H G' H') (h : SlotOk c B G H x sv) : SlotOk c B G' H' x sv := by
  cases sv with
  | un => trivial
  | val p =>
    obtain ⟨v, e, r⟩ := h
    exact ⟨v, e, r.up s.toGExt⟩
  | own ps =>
    obtain ⟨a, vs, e, ha, r, n1, n2, n3⟩ := h
    exact ⟨a, vs, e, s.keep _ _ ha n2, r.up s.toGExt, s.nfz _ _ ha n1, s.nio _ _ ha n2, n3⟩
  | ins cl ns ps =>
    obtain ⟨a, C, dx, fvs, e, es, ha, hc, hn, r, n1, n2, n3⟩ := h
    exact ⟨a, C, dx, fvs, e, es, s.keep _ _ ha n2, hc, hn, r.up s.toGExt, s.nfz _ _ ha n1, s.nio _ _ ha n2, n3⟩
theorem Rel.step (R : Rel c B σ ρ H st G) (s : Stp G H G' H') (S : SRel c H' st' G') : Rel c B σ ρ H' st' G' :=
  ⟨S, R.base.trans s, R.len2, fun i sv x h1 h2 => (R.slot i sv x h1 h2).step s, R.dist⟩
theorem Rel.srel (R : Rel c B σ ρ H st G) : SRel c H st G := R.toSRel
/-- a new object, frozen at once -/
theorem SRel.freeze {p : Addr} {o : HO} (S : SRel c H st G) (hp : H p = none) : SRel c (upd H p o) st ⟨upd G.fz p o, G.io⟩ ∧ Stp G H ⟨upd G.fz p o, G.io⟩ (upd H p o) := by
  have nio : p ∉ G.io := fun hm => by
    obtain ⟨i, hi, e⟩ := List.mem_iff_getElem.mp hm
    have e1 : G.io[i]? = some p := by rw [List.getElem?_eq_getElem hi, e]
    have hl : i < st.length := by rw [← S.len]; exact hi
    have q := S.obj i p st[i] e1 (List.getElem?_eq_getElem hl)
    cases hs : st[i] with
    | lst ps => rw [hs] at q; obtain ⟨vs, z, _⟩ := q; rw [hp] at z; cases z
    | ins a b d => rw [hs] at q; obtain ⟨_, _, _, z, _⟩ := q; rw [hp] at z; cases z
  have hfz : G.fz p = none := by
    cases e : G.fz p with
    | none => rfl
    | some o' => have := S.fzH _ _ e; rw [hp] at this; cases this
  have ext : GExt G ⟨upd G.fz p o, G.io⟩ := ⟨fun a u h => by
    show upd G.fz p o a = some u
    rw [upd_ne (ne_of_none h hfz)]; exact h, fun _ _ h => h⟩
  refine ⟨⟨fun a u h => ?_, S.nd, fun a ha => ?_, S.len, fun i a u h1 h2 => ?_⟩, ⟨ext, fun a u h _ => by rw [upd_ne (ne_of_none h hp)]; exact h, fun a u h => ⟨u, by rw [upd_ne (ne_of_none h hp)]; exact h⟩, fun a u h n => ?_, fun a u h n => n⟩⟩
  · by_cases e : a = p
    · subst e
      have h' : upd G.fz a o a = some u := h
      rw [upd_same] at h' ⊢; exact h'
    · have h' : upd G.fz p o a = some u := h
      rw [upd_ne e] at h' ⊢
      exact S.fzH _ _ h'
  · show upd G.fz p o a = none
    rw [upd_ne (show a ≠ p from fun e => nio (by rw [← e]; exact ha))]
    exact S.iofz a ha
  · have hap : a ≠ p := fun e => nio (e ▸ List.mem_of_getElem? h1)
    have q := S.obj i a u h1 h2
    cases u with
    | lst ps =>
      obtain ⟨vs, z, r⟩ := q
      exact ⟨vs, by rw [upd_ne hap]; exact z, r.up ext⟩
    | ins cl ns ps =>
      obtain ⟨C, dx, fvs, z, hc, hn, r⟩ := q
      exact ⟨C, dx, fvs, by rw [upd_ne hap]; exact z, hc, hn, r.up ext⟩
  · show upd G.fz p o a = none
    rw [upd_ne (ne_of_none h hp)]
    exact n
theorem SRel.notIo {p : Addr} (S : SRel c H st G) (hp : H p = none) : p ∉ G.io := fun hm => by
  obtain ⟨i, hi, e⟩ := List.mem_iff_getElem.mp hm
  have e1 : G.io[i]? = some p := by rw [List.getElem?_eq_getElem hi, e]
  have hl : i < st.length := by rw [← S.len]; exact hi
  have q := S.obj i p st[i] e1 (List.getElem?_eq_getElem hl)
  cases hs : st[i] with
  | lst ps => rw [hs] at q; obtain ⟨vs, z, _⟩ := q; rw [hp] at z; cases z
  | ins a b d => rw [hs] at q; obtain ⟨_, _, _, z, _⟩ := q; rw [hp] at z; cases z
theorem SRel.notFz {p : Addr} (S : SRel c H st G) (hp : H p = none) : G.fz p = none := by
  cases e : G.fz p with
  | none => rfl
  | some o' => have := S.fzH _ _ e; rw [hp] at this; cases this
/-- a new object that is not told -/
theorem SRel.fresh {p : Addr} {o : HO} (S : SRel c H st G) (hp : H p = none) : SRel c (upd H p o) st G ∧ Stp G H G (upd H p o) := by
  have nio := S.notIo hp
  have hfz := S.notFz hp
  refine ⟨⟨fun a u h => by rw [upd_ne (ne_of_none h hfz)]; exact S.fzH a u h, S.nd, S.iofz, S.len, fun i a u h1 h2 => ?_⟩, ⟨.refl G, fun a u h _ => by rw [upd_ne (ne_of_none h hp)]; exact h, fun a u h => ⟨u, by rw [upd_ne (ne_of_none h hp)]; exact h⟩, fun a u h n => n, fun a u h n => n⟩⟩
  have hap : a ≠ p := fun e => nio (e ▸ List.mem_of_getElem? h1)
  have q := S.obj i a u h1 h2
  cases u with
  | lst ps =>
    obtain ⟨vs, z, r⟩ := q
    exact ⟨vs, by rw [upd_ne hap]; exact z, r⟩
  | ins cl ns ps =>
    obtain ⟨C, dx, fvs, z, hc, hn, r⟩ := q
    exact ⟨C, dx, fvs, by rw [upd_ne hap]; exact z, hc, hn, r⟩
end
/-- an exception's own dict -/
def ERep (c : Cn) (G : Gh) (H : Hp) (cl : Nat) (ns : List Str) (vs : List PV) (cls : Value) (d : Option Addr) : Prop :=
  ∃ C, c.cm cl = some C ∧ cls = .ref C ∧ match d with
    | none => ns = [] ∧ vs = []
    | some dx => ∃ fvs : List (Str × V), H dx = some (.xd fvs) ∧ fvs.map (·.1) = ns ∧ RepVs c G (fvs.map (·.2)) vs
def Out {α β : Type} (c : Cn) (rep : Hp → Gh → Hp → β → α → Prop) (G : Gh) (H : Hp) (Q : β → Hp → Prop) (E : XK) : R α → Prop
  | .ok a st => ∀ (H' : Hp) (G' : Gh) (x : β), Stp G H G' H' → SRel c H' st G' → rep H G' H' x a → Q x H'
  | .ex cl ns vs st => ∀ (H' : Hp) (G' : Gh) (cls : Value) (d : Option Addr), Stp G H G' H' → SRel c H' st G' → ERep c G' H' cl ns vs cls d → E cls d H'
  | .bad => False
abbrev rpE (c : Cn) : Hp → Gh → Hp → V → PV → Prop := fun _ G' _ v p => RepV c G' v p
def rpF (c : Cn) : Hp → Gh → Hp → V → SV → Prop := fun H G' H' v sv => match sv with
  | .un => False
  | .val p => RepV c G' v p
  | .own ps => ∃ a vs, v = .ref a ∧ H' a = some (.lst vs) ∧ RepVs c G' vs ps ∧ G'.fz a = none ∧ a ∉ G'.io ∧ H a = none
  | .ins _ _ _ => False
abbrev rpA (c : Cn) : Hp → Gh → Hp → List V → List PV → Prop := fun _ G' _ vs ps => RepVs c G' vs ps
abbrev rpB : Hp → Gh → Hp → Bool → Bool → Prop := fun _ _ _ b k => b = k
/-- a representation that stands when one looks from earlier -/
def Early {α β : Type} (rep : Hp → Gh → Hp → β → α → Prop) : Prop := ∀ (H H1 : Hp) (G' : Gh) (H' : Hp) (x : β) (a : α), (∀ b, H1 b = none → H b = none) → rep H1 G' H' x a → rep H G' H' x a
theorem early_E {c : Cn} : Early (rpE c) := fun _ _ _ _ _ _ _ h => h
theorem early_A {c : Cn} : Early (rpA c) := fun _ _ _ _ _ _ _ h => h
theorem early_B : Early rpB := fun _ _ _ _ _ _ _ h => h
theorem early_F {c : Cn} : Early (rpF c) := fun H H1 G' H' x a e h => by
  cases a with
  | un => exact h
  | val p => exact h
  | ins _ _ _ => exact h
  | own ps =>
    obtain ⟨b, vs, e1, e2, e3, e4, e5, e6⟩ := h
    exact ⟨b, vs, e1, e2, e3, e4, e5, e _ e6⟩
theorem Out.later {α β : Type} {c : Cn} {rep : Hp → Gh → Hp → β → α → Prop} (er : Early rep) {G G1 : Gh} {H H1 : Hp} {Q : β → Hp → Prop} {E : XK} {r : R α} (s : Stp G H G1 H1) (h : Out c rep G H Q E r) : Out c rep G1 H1 Q E r := by
  cases r with
  | ok a st => exact fun H' G' x s1 S rp => h H' G' x (s.trans s1) S (er _ _ _ _ _ _ (fun b z => s.free z) rp)
  | ex cl ns vs st => exact fun H' G' cls d s1 S rp => h H' G' cls d (s.trans s1) S rp
  | bad => exact h
theorem Out.imp {α β : Type} {c : Cn} {rep : Hp → Gh → Hp → β → α → Prop} {G : Gh} {H : Hp} {Q Q' : β → Hp → Prop} {E : XK} {r : R α} (hq : ∀ x H', Q x H' → Q' x H') (h : Out c rep G H Q E r) : Out c rep G H Q' E r := by
  cases r with
  | ok a st => exact fun H' G' x s1 S rp => hq _ _ (h H' G' x s1 S rp)
  | ex cl ns vs st => exact h
  | bad => exact h
/-- one part after another -/
theorem Out.bind {α β γ δ : Type} {c : Cn} {rep : Hp → Gh → Hp → β → α → Prop} {rep2 : Hp → Gh → Hp → δ → γ → Prop} (er : Early rep2) {G : Gh} {H : Hp} {Q : δ → Hp → Prop} {Q1 : β → Hp → Prop} {E : XK} {r : R α} {f : α → Store → R γ}
    (h : Out c rep2 G H Q E (r.bind f))
    (k : ∀ a st1 H1 G1 x, Stp G H G1 H1 → SRel c H1 st1 G1 → rep H G1 H1 x a → Out c rep2 G1 H1 Q E (f a st1) → Q1 x H1) : Out c rep G H Q1 E r := by
  cases r with
  | ok a st => exact fun H1 G1 x s S rp => k a st H1 G1 x s S rp (Out.later er s h)
  | ex cl ns vs st => exact h
  | bad => exact h
section
variable (c : Cn) (W : WX)
def tE (m : EM) : TE := fun σ H Q => ∃ B ρ st G, Rel c B σ ρ H st G ∧ Out c (rpE c) G H Q (fun cls d H' => W cls d σ H') (m ρ st)
def tF (m : FM) : TE := fun σ H Q => ∃ B ρ st G, Rel c B σ ρ H st G ∧ Out c (rpF c) G H Q (fun cls d H' => W cls d σ H') (m ρ st)
def tA (m : AM) : TA := fun σ H Q => ∃ B ρ st G, Rel c B σ ρ H st G ∧ Out c (rpA c) G H Q (fun cls d H' => W cls d σ H') (m ρ st)
def tT (m : BM) : TT := fun σ H Q => ∃ B ρ st G, Rel c B σ ρ H st G ∧ Out c rpB G H Q (fun cls d H' => W cls d σ H') (m ρ st)
/-- behind a statement -/
def OutS (B : Bs) (D : Ends) (G : Gh) : SR → Prop
  | .next ρ st => ∀ σ H G', GExt G G' → Rel c B σ ρ H st G' → D.nx σ H
  | .brk ρ st => ∀ σ H G', GExt G G' → Rel c B σ ρ H st G' → D.bk σ H
  | .cnt ρ st => ∀ σ H G', GExt G G' → Rel c B σ ρ H st G' → D.ct σ H
  | .ret sv st => ∀ H G' x, GExt G G' → SRel c H st G' → Stp B.G B.H G' H → rpF c B.H G' H x sv → D.rt x H
  | .ex cl ns vs ρ st => ∀ σ H G' cls d, GExt G G' → Rel c B σ ρ H st G' → ERep c G' H cl ns vs cls d → W cls d σ H
  | .bad => False
def tS (m : SM) : TS := fun D σ H => ∃ B ρ st G, Rel c B σ ρ H st G ∧ OutS c W B D G (m ρ st)
end
theorem OutS.later {c : Cn} {W : WX} {B : Bs} {D : Ends} {G G1 : Gh} {r : SR} (e : GExt G G1) (h : OutS c W B D G r) : OutS c W B D G1 r := by
  cases r with
  | next ρ st => exact fun σ H G' e1 => h σ H G' (e.trans e1)
  | brk ρ st => exact fun σ H G' e1 => h σ H G' (e.trans e1)
  | cnt ρ st => exact fun σ H G' e1 => h σ H G' (e.trans e1)
  | ret sv st => exact fun H G' x e1 => h H G' x (e.trans e1)
  | ex cl ns vs ρ st => exact fun σ H G' cls d e1 => h σ H G' cls d (e.trans e1)
  | bad => exact h
/-- an expression, a fresh value, arguments, a test, a statement, a block: read by the combinator -/
def cnOf (X : Cx) (cm : Nat → Option Addr) : Cn := ⟨X.prog, X.w, X.K, cm⟩
section
variable (cm : Nat → Option Addr) (X : Cx) (W : WX)
def CE (m : EM) (e : Expr) : Prop := PE X e (tE (cnOf X cm) W m)
def CF (m : FM) (e : Expr) : Prop := PE X e (tF (cnOf X cm) W m)
def CA (m : AM) (es : List Expr) : Prop := PA X es (tA (cnOf X cm) W m)
def CT (m : BM) (e : Expr) : Prop := PT X e (tT (cnOf X cm) W m)
def CS (m : SM) (s : Stmt) : Prop := PS X s (tS (cnOf X cm) W m)
def CSs (m : SM) (s : List Stmt) : Prop := PSs X s (tS (cnOf X cm) W m)
end
theorem PE.weak {X : Cx} {e : Expr} {t t' : TE} (h : PE X e t) (w : ∀ σ H Q, t' σ H Q → t σ H Q) : PE X e t' := ⟨fun pins s σ H Q I q => h.run pins s σ H Q I (w σ H Q q)⟩
theorem PT.weak {X : Cx} {e : Expr} {t t' : TT} (h : PT X e t) (w : ∀ σ H Q, t' σ H Q → t σ H Q) : PT X e t' := ⟨fun pins s σ H Q I q => h.run pins s σ H Q I (w σ H Q q)⟩
theorem PA.weak {X : Cx} {e : List Expr} {t t' : TA} (h : PA X e t) (w : ∀ σ H Q, t' σ H Q → t σ H Q) : PA X e t' := ⟨fun pos pins s σ H Q I q => h.run pos pins s σ H Q I (w σ H Q q)⟩
theorem PS.weak {X : Cx} {e : Stmt} {t t' : TS} (h : PS X e t) (w : ∀ D σ H, t' D σ H → t D σ H) : PS X e t' := ⟨fun pins s σ H D I q => h.run pins s σ H D I (w D σ H q)⟩
theorem PSs.weak {X : Cx} {e : List Stmt} {t t' : TS} (h : PSs X e t) (w : ∀ D σ H, t' D σ H → t D σ H) : PSs X e t' := ⟨fun pins s σ H D I q => h.run pins s σ H D I (w D σ H q)⟩
end BR
set_option Elab.async false
set_option linter.all false
set_option maxRecDepth 100000
namespace BR
open PySem PySem.Spec PyProof.Rows L2
section
variable {X : Cx} {es : List Expr} {pos : Pos} {t : TA}
theorem tupO_ok {P : Program} {w : World} {H : Hp} {h : Heap} {a : Addr} {its : List Value} {vs : List V} (hz : vs.length ≤ sizeLine) (r : Vals vs its) (e : h.get? a = some { cls := .type "tuple", data := .seq its.toArray }) : ObjOk P w H h a (tupO { cls := .type "tuple", data := .seq its.toArray } vs) :=
  ⟨e, hz, its, r, _, e, rfl, 0, rfl⟩
def tTupN (t : TA) : TE := fun σ H Q => t σ H fun xs H1 => xs.length ≤ sizeLine ∧ ∀ p o, H1 p = none → o.dict = none → Q (.ref p) (upd H1 p (tupO o xs))
theorem pe_tupN {x1} (h : PA X es t) : PE X (.Tuple es x1 pos) (tTupN t) := by
  refine ⟨fun pins s σ H Q I hq => wpAny_Tuple_spliced (thn (h.run pos pins s σ H _ I hq) fun us s1 q0 => ?_)⟩
  obtain ⟨xs, H1, I1, r, z, q⟩ := q0
  exact ⟨by rw [← r.length]; exact z, .ref s1.heap.objs.size, _, I1.laid (t' := s1.toks) (fun b u e => Heap.get?_push_of_some _ e) (Nat.le_refl _) (tupO_ok z r (Heap.get?_push_size _ rfl)), rfl, q _ _ (I1.hok.fresh (Nat.le_refl _)) rfl⟩
def rCatN (K : PySem.W.Frag) : R2 := fun x y H Q => ∃ a b xs ys, x = .ref a ∧ y = .ref b ∧ SqT K H a xs ∧ SqT K H b ys ∧ xs.length + ys.length ≤ sizeLine ∧
  (xs = [] → Q (.ref b) H) ∧ (xs ≠ [] → ys = [] → Q (.ref a) H) ∧ (xs ≠ [] → ys ≠ [] → ∀ p o, H p = none → o.dict = none → Q (.ref p) (upd H p (tupO o (xs ++ ys))))
theorem op_catN : OpR X (binaryOp .Add) (rCatN X.K) := by
  intro pins s σ H x y v u Q I rx ry h
  obtain ⟨a, b, xs, ys, rfl, rfl, ha, hb, hz, q0, q1, q2⟩ := h
  cases rx
  cases ry
  obtain ⟨its, r1, p1, _⟩ := I.tuple ha
  obtain ⟨its2, r2, p2, _⟩ := I.tuple hb
  by_cases hx : xs = []
  · have e : its = [] := r1.nil_iff.mpr hx
    rw [e] at p1
    exact cat_tup0 p1 p2 ⟨.ref b, H, I, rfl, q0 hx⟩
  · refine HT.cat_tup p1 p2 (fun z => hx (r1.nil_iff.mp z)) (fun z => ⟨.ref a, H, I, rfl, q1 hx (r2.nil_iff.mp z)⟩) (fun z => ?_) (by rw [← r1.length, ← r2.length]; exact hz)
    exact ⟨.ref s.heap.objs.size, _, I.laid (t' := s.toks) (fun b ob q => Heap.get?_push_of_some _ q) (Nat.le_refl _) (tupO_ok (by rw [List.length_append]; exact hz) (r1.append r2) (Heap.get?_push_size _ rfl)), rfl, q2 hx (fun w => z (r2.nil_iff.mpr w)) _ _ (I.hok.fresh (Nat.le_refl _)) rfl⟩
def rSlN (K : PySem.W.Frag) : V → Option Int → Option Int → Hp → VK → Prop := fun x lo hi H Q => ∃ a xs, x = .ref a ∧ SqT K H a xs ∧
  (HT.sIx xs.length 0 lo = 0 ∧ HT.sIx xs.length xs.length hi = xs.length → Q (.ref a) H) ∧ (¬ (HT.sIx xs.length 0 lo = 0 ∧ HT.sIx xs.length xs.length hi = xs.length) → ∀ p o, H p = none → o.dict = none → Q (.ref p) (upd H p (tupO o (cutV xs lo hi))))
theorem sl_tupN : SlR X (rSlN X.K) := by
  intro pins s σ H x v vl vu lo hi sl Q I rx hs pl pu h
  obtain ⟨a, xs, rfl, hx, q1, q2⟩ := h
  cases rx
  obtain ⟨its, r, ht, hz⟩ := I.tuple hx
  have hlen : its.toArray.size = xs.length := by rw [List.size_toArray]; exact r.length.symm
  refine ⟨"tuple", _, PyProof.Rows.slot_tuple_getitem.lookup, ht.typeIs, ?_⟩
  by_cases hw : HT.sIx xs.length 0 lo = 0 ∧ HT.sIx xs.length xs.length hi = xs.length
  · exact getItem_tuple_whole ht hs pl pu (by rw [hlen]; exact hw) ⟨.ref a, H, I, rfl, q1 hw⟩
  · refine HT.getItem_tuple_cut ht hs pl pu (by rw [hlen]; exact hw) ?_ (by rw [hlen]; exact hz)
    rw [hlen]
    exact ⟨.ref s.heap.objs.size, _, I.laid (t' := s.toks) (fun b ob q => Heap.get?_push_of_some _ q) (Nat.le_refl _)
      (tupO_ok (Nat.le_trans (cutV_length xs lo hi) hz) ((r.drop (HT.sIx xs.length 0 lo)).take (HT.sIx xs.length xs.length hi - HT.sIx xs.length 0 lo)) (Heap.get?_push_size _ rfl)), rfl, q2 hw _ _ (I.hok.fresh (Nat.le_refl _)) rfl⟩
def rTupN (K : PySem.W.Frag) : List V → Hp → VK → Prop := fun xs H Q => ∃ p ys, xs = [.ref p] ∧ ((SqL K H p ys ∧ ∀ l o, H l = none → o.dict = none → Q (.ref l) (upd H l (tupO o ys))) ∨ (SqT K H p ys ∧ Q (.ref p) H))
theorem call_tupleN : CallR X (.type "tuple") (rTupN X.K) := by
  intro pins s σ H xs us Q I r h
  obtain ⟨p, ys, rfl, h⟩ := h
  obtain ⟨u, rfl, rx⟩ := vals1 r
  cases rx
  rcases h with ⟨hq, q⟩ | ⟨hq, q⟩
  · obtain ⟨its, r', pl, hz⟩ := I.list hq
    have hlen := r'.length
    refine call_tuple_list pl.isList (fun h' kp => ?_) (by simp only [List.size_toArray] <;> omega)
    have I1 : Inv X pins σ H { s with heap := h' } := I.kept (t' := s.toks) kp
    exact ⟨.ref h'.objs.size, _, I1.laid (t' := s.toks) (fun b o e => Heap.get?_push_of_some _ e) (Nat.le_refl _) (tupO_ok hz r' (Heap.get?_push_size _ rfl)), rfl, q _ _ (I1.hok.fresh (Nat.le_refl _)) rfl⟩
  · obtain ⟨its, _, p1, _⟩ := I.tuple hq
    exact call_tuple_same (items := its.toArray) p1 ⟨.ref p, H, I, rfl, q⟩
end
section
variable {c : Cn} {B : Bs} {σ : L2.St} {ρ : Env} {H H1 : Hp} {st st1 : Store} {G G1 : Gh} {W : WX}
theorem OutS.bind {α β : Type} {rep : Hp → Gh → Hp → β → α → Prop} {D : Ends} {Q1 : β → Hp → Prop} {r : R α} {f : α → Store → SR} (R0 : Rel c B σ ρ H st G) (h : OutS c W B D G (r.bindS ρ f))
    (k : ∀ a st1 H1 G1 x, Stp G H G1 H1 → Rel c B σ ρ H1 st1 G1 → rep H G1 H1 x a → OutS c W B D G1 (f a st1) → Q1 x H1) : Out c rep G H Q1 (fun cls d H' => W cls d σ H') r := by
  cases r with
  | ok a st => exact fun H1 G1 x s S rp => k a st H1 G1 x s (R0.step s S) rp (OutS.later s.toGExt h)
  | ex cl ns vs st => exact fun H1 G1 cls d s S er => h σ H1 G1 cls d s.toGExt (R0.step s S) er
  | bad => exact h
theorem Out.bindR {α β γ δ : Type} {rep : Hp → Gh → Hp → β → α → Prop} {rep2 : Hp → Gh → Hp → δ → γ → Prop} (er : Early rep2) {Q : δ → Hp → Prop} {Q1 : β → Hp → Prop} {E : XK} {r : R α} {f : α → Store → R γ} (R0 : Rel c B σ ρ H st G)
    (h : Out c rep2 G H Q E (r.bind f))
    (k : ∀ a st1 H1 G1 x, Stp G H G1 H1 → Rel c B σ ρ H1 st1 G1 → rep H G1 H1 x a → Out c rep2 G1 H1 Q E (f a st1) → Q1 x H1) : Out c rep G H Q1 E r :=
  Out.bind er h fun a st1 H1 G1 x s S rp h' => k a st1 H1 G1 x s (R0.step s S) rp h'
theorem Rel.entry (R : Rel c B σ ρ H st G) {a : Addr} (h : H a = none) : B.H a = none := R.base.free h
theorem getq_set {α : Type} {l : List α} {i j : Nat} {x y : α} (h : (l.set i x)[j]? = some y) : (j = i ∧ i < l.length ∧ y = x) ∨ (j ≠ i ∧ l[j]? = some y) := by
  by_cases e : i = j
  · subst e
    by_cases hl : i < l.length
    · rw [List.getElem?_set_self hl] at h
      exact .inl ⟨rfl, hl, (Option.some.inj h).symm⟩
    · rw [List.getElem?_eq_none (by simpa using hl)] at h
      cases h
  · rw [List.getElem?_set_ne e] at h
    exact .inr ⟨fun z => e z.symm, h⟩
/-- a name stored: a value, or a list that nobody had when the store's expression began -/
theorem Rel.setF {i : Nat} {x : V} {sv : SV} (R0 : Rel c B σ ρ H st G) (s : Stp G H G1 H1) (S : SRel c H1 st1 G1) (rp : rpF c H G1 H1 x sv) : Rel c B (σ.set i (some x)) (ρ.set i sv) H1 st1 G1 := by
  have R1 := R0.step s S
  have own_ne : ∀ (j : Nat) (sw : SV) (a : Addr), ρ[j]? = some sw → sw.isOwn = true → σ[j]? = some (some (.ref a)) → H a ≠ none := fun j sw a h1 h2 h3 h4 => by
    have q := R0.slot j sw _ h1 h3
    cases sw with
    | un => cases h2
    | val p => cases h2
    | own ps =>
      obtain ⟨b, vs, e, hb, _⟩ := q
      cases e
      rw [h4] at hb; cases hb
    | ins _ _ _ =>
      obtain ⟨b, _, _, _, e, _, hb, _⟩ := q
      cases e
      rw [h4] at hb; cases hb
  have newF : sv.isOwn = true → ∃ a, x = .ref a ∧ H a = none := fun hs => by
    cases sv with
    | un => cases hs
    | val p => cases hs
    | own ps =>
      obtain ⟨a, vs, e, _, _, _, _, hn⟩ := rp
      exact ⟨a, e, hn⟩
    | ins _ _ _ => exact rp.elim
  refine ⟨S, R1.base, by simp [R1.len2], fun j sw y h1 h2 => ?_, fun j l sw sx a h1 h2 h3 h4 h5 h6 => ?_⟩
  · rcases getq_set h1 with ⟨e, _, e1⟩ | ⟨ne, h1⟩
    · subst e e1
      rcases getq_set h2 with ⟨_, _, e2⟩ | ⟨ne, _⟩
      · subst e2
        cases sw with
        | un => trivial
        | val p => exact ⟨x, rfl, rp⟩
        | own ps =>
          obtain ⟨a, vs, e, ha, r, n1, n2, n3⟩ := rp
          exact ⟨a, vs, by rw [e], ha, r, n1, n2, R0.entry n3⟩
        | ins _ _ _ => exact rp.elim
      · exact absurd rfl ne
    · rcases getq_set h2 with ⟨e, _, _⟩ | ⟨_, h2⟩
      · exact absurd e ne
      · exact R1.slot j sw y h1 h2
  · rcases getq_set h1 with ⟨e, _, e1⟩ | ⟨ne, g1⟩
    · rcases getq_set h2 with ⟨e', _, _⟩ | ⟨ne', g2⟩
      · rw [e, e']
      · rcases getq_set h5 with ⟨_, _, e5⟩ | ⟨ne, _⟩
        · rcases getq_set h6 with ⟨e6, _, _⟩ | ⟨_, g6⟩
          · exact absurd e6 ne'
          · obtain ⟨b, hb, hn⟩ := newF (by rw [← e1]; exact h3)
            rw [hb] at e5
            have e7 : a = b := by injection e5 with z; injection z
            rw [← e7] at hn
            exact absurd hn (own_ne l sx a g2 h4 g6)
        · exact absurd e ne
    · rcases getq_set h2 with ⟨e', _, e1⟩ | ⟨ne', g2⟩
      · rcases getq_set h6 with ⟨_, _, e5⟩ | ⟨ne2, _⟩
        · rcases getq_set h5 with ⟨e6, _, _⟩ | ⟨_, g5⟩
          · exact absurd e6 ne
          · obtain ⟨b, hb, hn⟩ := newF (by rw [← e1]; exact h4)
            rw [hb] at e5
            have e7 : a = b := by injection e5 with z; injection z
            rw [← e7] at hn
            exact absurd hn (own_ne j sw a g1 h3 g5)
        · exact absurd e' ne2
      · rcases getq_set h5 with ⟨e6, _, _⟩ | ⟨_, g5⟩
        · exact absurd e6 ne
        · rcases getq_set h6 with ⟨e6, _, _⟩ | ⟨_, g6⟩
          · exact absurd e6 ne'
          · exact R1.dist j l sw sx a g1 g2 h3 h4 g5 g6
end
section
variable {cm : Nat → Option Addr} {X : Cx} {W : WX} {pos : Pos}
theorem ce_int {i j} : CE cm X W (eC (.int i)) (.Constant (.int i) j pos) := PE.weak pe_int fun σ H Q ⟨B, ρ, st, G, R, h⟩ => h H G _ (.refl G H) R.srel .int
theorem ce_bl {b j} : CE cm X W (eC (.bl b)) (.Constant (.bool b) j pos) := PE.weak pe_bl fun σ H Q ⟨B, ρ, st, G, R, h⟩ => h H G _ (.refl G H) R.srel .bl
theorem ce_non {j} : CE cm X W (eC .non) (.Constant .none j pos) := PE.weak pe_non fun σ H Q ⟨B, ρ, st, G, R, h⟩ => h H G _ (.refl G H) R.srel .non
theorem ce_str {s : List Nat} {x : Str} {j} (hx : x = ⟨s.toArray⟩ := by decide +kernel) : CE cm X W (eC (.str s)) (.Constant (.str x) j pos) := PE.weak pe_str fun σ H Q ⟨B, ρ, st, G, R, h⟩ => by
  subst hx
  exact h H G _ (.refl G H) R.srel .str
theorem ce_var (i : Nat) {x : Str} (hN : X.N[i]? = some x := by rfl) (hv : Vis X.env.scope x := by first | exact Or.inl rfl | exact Or.inr (Or.inl rfl) | exact Or.inr (Or.inr rfl)) (hd : (x == ("__debug__" : Str)) = false := by decide)
    (hcd : (x == ("__classdict__" : Str)) = false := by decide) : CE cm X W (eVar i) (.Name x pos) := PE.weak (pe_var hN hv hd hcd) fun σ H Q ⟨B, ρ, st, G, R, h⟩ => by
  cases e : ρ[i]? with
  | none => simp only [eVar, e] at h; exact h.elim
  | some sv =>
    have hi : i < σ.length := by rw [← R.len2]; exact (List.getElem?_eq_some_iff.mp e).1
    have q := R.slot i sv σ[i] e (List.getElem?_eq_getElem hi)
    cases sv with
    | val p =>
      simp only [eVar, e] at h
      obtain ⟨v, hv, r⟩ := q
      exact ⟨v, by rw [List.getElem?_eq_getElem hi, hv], h H G v (.refl G H) R.srel r⟩
    | _ => simp only [eVar, e] at h; exact h.elim
/-- a module's constant -/
theorem ce_glob {x : Str} {v : V} {p : PV} {u : Value} (hg : Gl X x) (hm : X.mg x = some u) (r : RelV v u) (rp : ∀ G, RepV (cnOf X cm) G v p) (hd : (x == ("__debug__" : Str)) = false := by decide) : CE cm X W (eC p) (.Name x pos) :=
  PE.weak (pe_glob hg hm r hd) fun σ H Q ⟨B, ρ, st, G, R, h⟩ => h H G _ (.refl G H) R.srel (rp G)
def Rd2 (c : Cn) (r : R2) (f : PV → PV → Option PV) : Prop := ∀ (G : Gh) (H : Hp) (st : Store) (v w : V) (p q z : PV) (Q : VK), SRel c H st G → RepV c G v p → RepV c G w q → f p q = some z →
  (∀ H' G' x, Stp G H G' H' → SRel c H' st G' → RepV c G' x z → Q x H') → r v w H Q
def Rd1 (c : Cn) (r : V → Hp → VK → Prop) (f : PV → Option PV) : Prop := ∀ (G : Gh) (H : Hp) (st : Store) (v : V) (p z : PV) (Q : VK), SRel c H st G → RepV c G v p → f p = some z →
  (∀ H' G' x, Stp G H G' H' → SRel c H' st G' → RepV c G' x z → Q x H') → r v H Q
def RdN (c : Cn) (r : List V → Hp → VK → Prop) (f : List PV → Option PV) : Prop := ∀ (G : Gh) (H : Hp) (st : Store) (vs : List V) (ps : List PV) (z : PV) (Q : VK), SRel c H st G → RepVs c G vs ps → f ps = some z →
  (∀ H' G' x, Stp G H G' H' → SRel c H' st G' → RepV c G' x z → Q x H') → r vs H Q
theorem out_ofOpt {c : Cn} {G : Gh} {H : Hp} {Q : VK} {E : XK} {o : Option PV} {st : Store} (h : Out c (rpE c) G H Q E (R.ofOpt o st)) : ∃ z, o = some z ∧ ∀ H' G' x, Stp G H G' H' → SRel c H' st G' → RepV c G' x z → Q x H' := by
  cases o with
  | none => exact h.elim
  | some z => exact ⟨z, rfl, h⟩
variable {a b : Expr} {m1 m2 : EM}
theorem rd_op2 {r : R2} {f : PV → PV → Option PV} (hr : Rd2 (cnOf X cm) r f) (σ : L2.St) (H : Hp) (Q : VK) (h : tE (cnOf X cm) W (eOp2 f m1 m2) σ H Q) : tOp r (tE (cnOf X cm) W m1) (tE (cnOf X cm) W m2) σ H Q := by
  obtain ⟨B, ρ, st, G, R, h⟩ := h
  refine ⟨B, ρ, st, G, R, Out.bindR early_E R h fun p st1 H1 G1 x s1 R1 rx h1 => ?_⟩
  refine ⟨B, ρ, st1, G1, R1, Out.bindR early_E R1 h1 fun q st2 H2 G2 y s2 R2 ry h2 => ?_⟩
  obtain ⟨z, e, h3⟩ := out_ofOpt h2
  exact hr G2 H2 st2 x y p q z Q R2.srel (rx.up s2.toGExt) ry e h3
theorem ce_op {op : Operator} {r : R2} {f : PV → PV → Option PV} (ho : OpR X (binaryOp op) r) (hr : Rd2 (cnOf X cm) r f) (ha : CE cm X W m1 a) (hb : CE cm X W m2 b) : CE cm X W (eOp2 f m1 m2) (.BinOp a op b pos) := PE.weak (pe_op ho ha hb) (rd_op2 hr)
theorem ce_un {op : UnaryOp} {r : V → Hp → VK → Prop} {f : PV → Option PV} (ho : UnR X (unaryOp op) r) (hr : Rd1 (cnOf X cm) r f) (ha : CE cm X W m1 a) : CE cm X W (eOp1 f m1) (.UnaryOp op a pos) := PE.weak (pe_un ho ha) fun σ H Q ⟨B, ρ, st, G, R, h⟩ => by
  refine ⟨B, ρ, st, G, R, Out.bindR early_E R h fun p st1 H1 G1 x s1 R1 rx h1 => ?_⟩
  obtain ⟨z, e, h3⟩ := out_ofOpt h1
  exact hr G1 H1 st1 x p z Q R1.srel rx e h3
theorem ce_cmp {op : CmpOp} {r : R2} {f : PV → PV → Option PV} (ho : OpR X (compareOp op) r) (hr : Rd2 (cnOf X cm) r f) (ha : CE cm X W m1 a) (hb : CE cm X W m2 b) (hm : behindInMarks op b = false := by first | exact nomark _ | rfl) : CE cm X W (eOp2 f m1 m2) (.Compare a [op] [b] pos) :=
  PE.weak (pe_cmpR ho ha hb hm) (rd_op2 hr)
theorem tE_tVal {m : EM} {σ : L2.St} {H : Hp} {Q : Bool → Hp → Prop} (h : tT (cnOf X cm) W (tVal m) σ H Q) : tE (cnOf X cm) W m σ H fun x H1 => ∃ k, x = .bl k ∧ Q k H1 := by
  obtain ⟨B, ρ, st, G, R, h⟩ := h
  refine ⟨B, ρ, st, G, R, Out.bindR early_B R h fun p st1 H1 G1 x s1 R1 rx h1 => ?_⟩
  cases rx with
  | bl => exact ⟨_, rfl, h1 H1 G1 _ (.refl G1 H1) R1.srel rfl⟩
  | _ => exact h1.elim
theorem ct_cmp {op : CmpOp} {r : R2} {f : PV → PV → Option PV} (ho : OpR X (compareOp op) r) (hr : Rd2 (cnOf X cm) r f) (ha : CE cm X W m1 a) (hb : CE cm X W m2 b) (hm : behindInMarks op b = false := by first | exact nomark _ | rfl) : CT cm X W (tVal (eOp2 f m1 m2)) (.Compare a [op] [b] pos) :=
  PT.weak (pt_cmpR ho ha hb hm) fun σ H Q h => rd_op2 hr σ H _ (tE_tVal h)
theorem ct_val {e : Expr} {m : EM} (h : CE cm X W m e) (he : ∀ whole, isTrue e X.env whole = (do let v ← whole; standAt e.pos; holding [v] (truthy v)) := by intro _; rfl) : CT cm X W (tVal m) e := PT.weak (pt_val h he) fun σ H Q h => tE_tVal h
theorem ct_not {m : BM} (h : CT cm X W m a) : CT cm X W (tNot m) (.UnaryOp .Not a pos) := PT.weak (pt_not h) fun σ H Q ⟨B, ρ, st, G, R, h⟩ =>
  ⟨B, ρ, st, G, R, Out.bindR early_B R h fun k st1 H1 G1 x s1 R1 rx h1 => by
    subst rx
    exact h1 H1 G1 _ (.refl G1 H1) R1.srel rfl⟩
/-- chains of and, or as tests -/
def CW (cm : Nat → Option Addr) (X : Cx) (W : WX) (m : BM) (e : Expr) : Prop := PW X e (tT (cnOf X cm) W m)
theorem PW.weak {X : Cx} {e : Expr} {t t' : TT} (h : PW X e t) (w : ∀ σ H Q, t' σ H Q → t σ H Q) : PW X e t' := ⟨fun wh pins s σ H Q I q => h.run wh pins s σ H Q I (w σ H Q q)⟩
theorem ct_w {m : BM} (h : CW cm X W m a) : CT cm X W m a := L2.PW.pt h
theorem cw_and1 {m : BM} (h : CT cm X W m a) : CW cm X W m (.BoolOp .And [a] pos) := pw_and1 h
theorem cw_or1 {m : BM} (h : CT cm X W m a) : CW cm X W m (.BoolOp .Or [a] pos) := pw_or1 h
theorem cw_and {m n : BM} {rest : List Expr} (h : CT cm X W m a) (h2 : CW cm X W n (.BoolOp .And (b :: rest) pos)) : CW cm X W (tAnd m n) (.BoolOp .And (a :: b :: rest) pos) := PW.weak (pw_and h h2) fun σ H Q ⟨B, ρ, st, G, R, h⟩ =>
  ⟨B, ρ, st, G, R, Out.bindR early_B R h fun k st1 H1 G1 x s1 R1 rx h1 => by
    subst rx
    cases x with
    | true => exact ⟨B, ρ, st1, G1, R1, h1⟩
    | false => exact h1 H1 G1 _ (.refl G1 H1) R1.srel rfl⟩
theorem cw_or {m n : BM} {rest : List Expr} (h : CT cm X W m a) (h2 : CW cm X W n (.BoolOp .Or (b :: rest) pos)) : CW cm X W (tOr m n) (.BoolOp .Or (a :: b :: rest) pos) := PW.weak (pw_or h h2) fun σ H Q ⟨B, ρ, st, G, R, h⟩ =>
  ⟨B, ρ, st, G, R, Out.bindR early_B R h fun k st1 H1 G1 x s1 R1 rx h1 => by
    subst rx
    cases x with
    | false => exact ⟨B, ρ, st1, G1, R1, h1⟩
    | true => exact h1 H1 G1 _ (.refl G1 H1) R1.srel rfl⟩
theorem ce_one {op : PySem.BoolOp} {m : EM} (h : CE cm X W m a) : CE cm X W m (.BoolOp op [a] pos) := pe_one h
theorem ce_and {rest : List Expr} (h : CE cm X W m1 a) (h2 : CE cm X W m2 (.BoolOp .And (b :: rest) pos)) : CE cm X W (eAnd m1 m2) (.BoolOp .And (a :: b :: rest) pos) := PE.weak (pe_and h h2) fun σ H Q ⟨B, ρ, st, G, R, h⟩ =>
  ⟨B, ρ, st, G, R, Out.bindR early_E R h fun k st1 H1 G1 x s1 R1 rx h1 => by
    cases rx with
    | @bl b =>
      refine ⟨b, rfl, ?_⟩
      cases b with
      | true => exact ⟨B, ρ, st1, G1, R1, h1⟩
      | false => exact h1 H1 G1 _ (.refl G1 H1) R1.srel .bl
    | _ => exact h1.elim⟩
theorem ce_not (h : CE cm X W m1 a) : CE cm X W (eNot m1) (.UnaryOp .Not a pos) := PE.weak (pe_not h) fun σ H Q ⟨B, ρ, st, G, R, h⟩ =>
  ⟨B, ρ, st, G, R, Out.bindR early_E R h fun k st1 H1 G1 x s1 R1 rx h1 => by
    cases rx with
    | bl => exact ⟨_, rfl, h1 H1 G1 _ (.refl G1 H1) R1.srel .bl⟩
    | _ => exact h1.elim⟩
variable {es : List Expr} {ar : AM} {f : FM}
theorem ca_nil : CA cm X W aNil [] := PA.weak pa_nil fun σ H Q ⟨B, ρ, st, G, R, h⟩ => h H G _ (.refl G H) R.srel .nil
theorem ca_cons (ha : CE cm X W m1 a) (hr : CA cm X W ar es) (hs : starEach (a :: es) X.env = (false, eval a X.env) :: starEach es X.env := by rfl) : CA cm X W (aCons m1 ar) (a :: es) := PA.weak (pa_cons ha hr hs) fun σ H Q ⟨B, ρ, st, G, R, h⟩ =>
  ⟨B, ρ, st, G, R, Out.bindR early_A R h fun p st1 H1 G1 x s1 R1 rx h1 =>
    ⟨B, ρ, st1, G1, R1, Out.bindR early_A R1 h1 fun ps st2 H2 G2 xs s2 R2 rxs h2 => h2 H2 G2 _ (.refl G2 H2) R2.srel (.cons (rx.up s2.toGExt) rxs)⟩⟩
theorem lim_line {n : Nat} (h : n ≤ lim) : n ≤ sizeLine := Nat.le_trans h (by decide)
theorem ce_tup {x1} (h : CA cm X W ar es) : CE cm X W (eTup ar) (.Tuple es x1 pos) := PE.weak (pe_tupN h) fun σ H Q ⟨B, ρ, st, G, R, h⟩ =>
  ⟨B, ρ, st, G, R, Out.bindR early_E R h fun ps st1 H1 G1 xs s1 R1 rx h1 => by
    by_cases e : ps.length ≤ lim
    · rw [if_pos e] at h1
      refine ⟨by rw [rx.len]; exact lim_line e, fun p o hp hd => ?_⟩
      obtain ⟨S2, s2⟩ := R1.srel.freeze (o := tupO o xs) hp
      exact h1 _ _ _ s2 S2 (.tup ⟨o, by show upd G1.fz p _ p = _; exact upd_same, hd⟩ (rx.up s2.toGExt))
    · rw [if_neg e] at h1
      exact h1.elim⟩
theorem cf_lst (h : CA cm X W ar es) : CF cm X W (fLst ar) (.List es pos) := PE.weak (pe_lst h) fun σ H Q ⟨B, ρ, st, G, R, h⟩ =>
  ⟨B, ρ, st, G, R, Out.bindR early_F R h fun ps st1 H1 G1 xs s1 R1 rx h1 => by
    by_cases e : ps.length ≤ lim
    · rw [if_pos e] at h1
      refine ⟨by rw [rx.len]; exact lim_line e, fun p hp => ?_⟩
      obtain ⟨S2, s2⟩ := R1.srel.fresh (o := .lst xs) hp
      exact h1 _ _ _ s2 S2 ⟨p, xs, rfl, upd_same, rx, R1.srel.notFz hp, R1.srel.notIo hp, hp⟩
    · rw [if_neg e] at h1
      exact h1.elim⟩
theorem w_frz {f : FM} {σ : L2.St} {H : Hp} {Q : VK} (h0 : tE (cnOf X cm) W (eFrz f) σ H Q) : tF (cnOf X cm) W f σ H Q := by
  obtain ⟨B, ρ, st, G, R, h⟩ := h0
  refine ⟨B, ρ, st, G, R, ?_⟩
  unfold eFrz at h
  cases hr : f ρ st with
  | bad => rw [hr] at h; exact h
  | ex cl ns vs st1 => rw [hr] at h; exact h
  | ok sv st1 =>
    rw [hr] at h
    intro H1 G1 x s1 S1 rx
    cases sv with
    | un => exact rx.elim
    | ins _ _ _ => exact rx.elim
    | val p => exact h H1 G1 x s1 S1 rx
    | own ps =>
      obtain ⟨a, vs, e, ha, r, n1, n2, n3⟩ := rx
      subst e
      -- the list stands as it is; from now on it is frozen
      have ext : GExt G1 ⟨upd G1.fz a (.lst vs), G1.io⟩ := ⟨fun b u hb => by
        show upd G1.fz a _ b = _
        rw [upd_ne (ne_of_none hb n1)]; exact hb, fun _ _ z => z⟩
      have S2 : SRel (cnOf X cm) H1 st1 ⟨upd G1.fz a (.lst vs), G1.io⟩ := by
        refine ⟨fun b u hb => ?_, S1.nd, fun b hb => ?_, S1.len, fun i b o q1 q2 => ?_⟩
        · by_cases eb : b = a
          · have hb' : upd G1.fz a (.lst vs) b = some u := hb
            rw [eb, upd_same] at hb'
            rw [eb, ha]; exact hb'
          · have hb' : upd G1.fz a (.lst vs) b = some u := hb
            rw [upd_ne eb] at hb'
            exact S1.fzH b u hb'
        · show upd G1.fz a _ b = none
          rw [upd_ne (show b ≠ a from fun z => n2 (by rw [← z]; exact hb))]
          exact S1.iofz b hb
        · have q := S1.obj i b o q1 q2
          cases o with
          | lst qs =>
            obtain ⟨ws, z, rr⟩ := q
            exact ⟨ws, z, rr.up ext⟩
          | ins cl ns qs =>
            obtain ⟨C, dx, fvs, z, hc, hn, rr⟩ := q
            exact ⟨C, dx, fvs, z, hc, hn, rr.up ext⟩
      -- seen from the expression's begin the list is new
      have s2 : Stp G H ⟨upd G1.fz a (.lst vs), G1.io⟩ H1 := ⟨s1.toGExt.trans ext, s1.keep, s1.live, fun b o hb hz => by
        show upd G1.fz a _ b = none
        rw [upd_ne (ne_of_none hb n3)]
        exact s1.nfz b o hb hz, s1.nio⟩
      exact h H1 _ (.ref a) s2 S2 (.lst (by show upd G1.fz a _ a = _; exact upd_same) (r.up ext))
theorem ce_frz {e : Expr} (h : CF cm X W f e) : CE cm X W (eFrz f) e := PE.weak h fun σ H Q h => w_frz h
theorem w_val {m1 : EM} {σ : L2.St} {H : Hp} {Q : VK} : tF (cnOf X cm) W (fVal m1) σ H Q → tE (cnOf X cm) W m1 σ H Q := fun ⟨B, ρ, st, G, R, h⟩ =>
  ⟨B, ρ, st, G, R, Out.bindR early_F R h fun p st1 H1 G1 x s1 R1 rx h1 => h1 H1 G1 _ (.refl G1 H1) R1.srel rx⟩
theorem cf_val {e : Expr} (h : CE cm X W m1 e) : CF cm X W (fVal m1) e := PE.weak h fun σ H Q h => w_val h
theorem rd_opN {r : List V → Hp → VK → Prop} {f : List PV → Option PV} (hr : RdN (cnOf X cm) r f) (σ : L2.St) (H : Hp) (Q : VK) (h : tE (cnOf X cm) W (eOpN f ar) σ H Q) : tCB r (tA (cnOf X cm) W ar) σ H Q := by
  obtain ⟨B, ρ, st, G, R, h⟩ := h
  refine ⟨B, ρ, st, G, R, Out.bindR early_E R h fun ps st1 H1 G1 xs s1 R1 rx h1 => ?_⟩
  obtain ⟨z, e, h3⟩ := out_ofOpt h1
  exact hr G1 H1 st1 xs ps z Q R1.srel rx e h3
variable {x : Str} {p : Pos} {id T : String}
theorem ce_callB {r : List V → Hp → VK → Prop} {fn : List PV → Option PV} (hc : CallR X (.builtin id) r) (hr : RdN (cnOf X cm) r fn) (hg : Gl X x) (hm : X.mg x = none) (hv : bootBuiltins x = some (.builtin id)) (ha : CA cm X W ar (a :: es)) (hn : x ≠ "__name__" := by decide) (hdb : (x == ("__debug__" : Str)) = false := by decide)
    (he : starEach (a :: es) X.env = (false, eval a X.env) :: starEach es X.env := by rfl) (hpl : (backTo pos (starEach es X.env)).any (·.1) = false := by rfl) : CE cm X W (eOpN fn ar) (.Call (.Name x p) (a :: es) [] pos) := PE.weak (pe_callB hc hg hm hv ha hn hdb he hpl) (rd_opN hr)
theorem ce_callTy {r : List V → Hp → VK → Prop} {fn : List PV → Option PV} (hc : CallR X (.type T) r) (hr : RdN (cnOf X cm) r fn) (hg : Gl X x) (hm : X.mg x = none) (hv : bootBuiltins x = some (.type T)) (ha : CA cm X W ar (a :: es)) (hn : x ≠ "__name__" := by decide) (hdb : (x == ("__debug__" : Str)) = false := by decide)
    (he : starEach (a :: es) X.env = (false, eval a X.env) :: starEach es X.env := by rfl) (hpl : (backTo pos (starEach es X.env)).any (·.1) = false := by rfl) : CE cm X W (eOpN fn ar) (.Call (.Name x p) (a :: es) [] pos) := PE.weak (pe_callTy hc hg hm hv ha hn hdb he hpl) (rd_opN hr)
variable {s : Stmt} {sts : List Stmt} {n1 n2 : SM} {t : BM}
theorem css_nil : CSs cm X W sNil [] := PSs.weak pss_nil fun D σ H ⟨B, ρ, st, G, R, h⟩ => h σ H G (.refl G) R
theorem css_cons (h1 : CS cm X W n1 s) (h2 : CSs cm X W n2 sts) : CSs cm X W (sSeq n1 n2) (s :: sts) := PSs.weak (pss_cons h1 h2) fun D σ H ⟨B, ρ, st, G, R, h⟩ => by
  refine ⟨B, ρ, st, G, R, ?_⟩
  unfold sSeq at h
  cases e : n1 ρ st with
  | next ρ1 st1 => rw [e] at h; exact fun σ1 H1 G1 ex R1 => ⟨B, ρ1, st1, G1, R1, OutS.later ex h⟩
  | brk _ _ => rw [e] at h; exact h
  | cnt _ _ => rw [e] at h; exact h
  | ret _ _ => rw [e] at h; exact h
  | ex _ _ _ _ _ => rw [e] at h; exact h
  | bad => rw [e] at h; exact h
theorem css_one (h1 : CS cm X W n1 s) : CSs cm X W n1 [s] := pss_one h1
theorem cs_if {e : Expr} {l1 l2 : List Stmt} (ht : CT cm X W t e) (h1 : CSs cm X W n1 l1) (h2 : CSs cm X W n2 l2) : CS cm X W (sIf t n1 n2) (.If e l1 l2 pos) := PS.weak (ps_if ht h1 h2) fun D σ H ⟨B, ρ, st, G, R, h⟩ =>
  ⟨B, ρ, st, G, R, OutS.bind R h fun k st1 H1 G1 x s1 R1 rx h1 => by
    subst rx
    cases x with
    | true => exact ⟨B, ρ, st1, G1, R1, h1⟩
    | false => exact ⟨B, ρ, st1, G1, R1, h1⟩⟩
theorem w_set {i : Nat} {f : FM} {D : Ends} {σ : L2.St} {H : Hp} (h0 : tS (cnOf X cm) W (sSet i f) D σ H) : tF (cnOf X cm) W f σ H fun x H1 => D.nx (σ.set i (some x)) H1 := by
  obtain ⟨B, ρ, st, G, R, h⟩ := h0
  refine ⟨B, ρ, st, G, R, ?_⟩
  unfold sSet at h
  cases hr : f ρ st with
  | bad => rw [hr] at h; exact h
  | ex cl ns vs st1 => rw [hr] at h; exact fun H1 G1 cls d s1 S er => h σ H1 G1 cls d s1.toGExt (R.step s1 S) er
  | ok sv st1 =>
    rw [hr] at h
    exact fun H1 G1 x s1 S1 rx => h _ H1 G1 s1.toGExt (R.setF s1 S1 rx)
theorem cs_set (i : Nat) {e : Expr} {pos' : Pos} (he : CF cm X W f e) (hN : X.N.Nodup) (hi : X.N[i]? = some x := by rfl) (hx : Loc X.env.scope x := by first | exact .inl rfl | exact .inr rfl) (hs : swapsWith e (some (.Name x pos')) pos.line X.env = pure false := by rfl)
    (hf : X.fn x = true ∨ X.env.scope.names.lookup x = some .local := by first | exact .inl rfl | exact .inr rfl | assumption) : CS cm X W (sSet i f) (.Assign [.Name x pos'] e pos) := PS.weak (ps_set hN hi hx he hs hf) fun D σ H h => w_set h
theorem cs_ret {e : Expr} (he : CF cm X W f e) : CS cm X W (sRet f) (.Return (some e) pos) := PS.weak (ps_ret he) fun D σ H ⟨B, ρ, st, G, R, h⟩ => by
  refine ⟨B, ρ, st, G, R, ?_⟩
  unfold sRet at h
  cases hr : f ρ st with
  | bad => rw [hr] at h; exact h
  | ex cl ns vs st1 => rw [hr] at h; exact fun H1 G1 cls d s1 S er => h σ H1 G1 cls d s1.toGExt (R.step s1 S) er
  | ok sv st1 =>
    rw [hr] at h
    exact fun H1 G1 x s1 S1 rx => h H1 G1 x s1.toGExt S1 (R.base.trans s1) (early_F _ _ _ _ _ _ (fun b z => R.entry z) rx)
theorem cs_retV (i : Nat) {pos' : Pos} (hN : X.N[i]? = some x := by rfl) (hv : Vis X.env.scope x := by first | exact Or.inl rfl | exact Or.inr (Or.inl rfl) | exact Or.inr (Or.inr rfl)) (hd : (x == ("__debug__" : Str)) = false := by decide)
    (hcd : (x == ("__classdict__" : Str)) = false := by decide) : CS cm X W (sRetV i) (.Return (some (.Name x pos')) pos) := PS.weak (ps_ret (pe_var hN hv hd hcd)) fun D σ H ⟨B, ρ, st, G, R, h⟩ => by
  cases e : ρ[i]? with
  | none => simp only [sRetV, e] at h; exact h.elim
  | some sv =>
    have hi : i < σ.length := by rw [← R.len2]; exact (List.getElem?_eq_some_iff.mp e).1
    have q := R.slot i sv σ[i] e (List.getElem?_eq_getElem hi)
    cases sv with
    | val p =>
      simp only [sRetV, e] at h
      obtain ⟨v, hv, r⟩ := q
      exact ⟨v, by rw [List.getElem?_eq_getElem hi, hv], h H G v (.refl G) R.srel R.base r⟩
    | own ps =>
      simp only [sRetV, e] at h
      obtain ⟨a, vs, hv, ha, r, k1, k2, k3⟩ := q
      exact ⟨.ref a, by rw [List.getElem?_eq_getElem hi, hv], h H G (.ref a) (.refl G) R.srel R.base ⟨a, vs, rfl, ha, r, k1, k2, k3⟩⟩
    | _ => simp only [sRetV, e] at h; exact h.elim
theorem cs_drop {e : Expr} (he : CE cm X W m1 e) (hs : swapsWith e none pos.line X.env = pure false := by rfl) : CS cm X W (sDrop m1) (.Expr e pos) := PS.weak (ps_expr he hs) fun D σ H ⟨B, ρ, st, G, R, h⟩ =>
  ⟨B, ρ, st, G, R, OutS.bind R h fun p st1 H1 G1 x s1 R1 rx h1 => h1 σ H1 G1 (.refl G1) R1⟩
/-- a ghost statement ahead of a block: a list of a name's own is frozen -/
theorem css_frz (i : Nat) (h : CSs cm X W n1 sts) : CSs cm X W (sSeq (sFrz i) n1) sts := PSs.weak h fun D σ H ⟨B, ρ, st, G, R, h⟩ => by
  unfold sSeq sFrz at h
  cases e : ρ[i]? with
  | none => simp only [e] at h; exact h.elim
  | some sv =>
    cases sv with
    | own ps =>
      simp only [e] at h
      have hi : i < σ.length := by rw [← R.len2]; exact (List.getElem?_eq_some_iff.mp e).1
      obtain ⟨a, vs, hv, ha, r, k1, k2, k3⟩ := R.slot i _ σ[i] e (List.getElem?_eq_getElem hi)
      have hσ : σ[i]? = some (some (.ref a)) := by rw [List.getElem?_eq_getElem hi, hv]
      have ext : GExt G ⟨upd G.fz a (.lst vs), G.io⟩ := ⟨fun b u hb => by
        show upd G.fz a _ b = _
        rw [upd_ne (ne_of_none hb k1)]; exact hb, fun _ _ z => z⟩
      refine ⟨B, _, st, ⟨upd G.fz a (.lst vs), G.io⟩, ⟨⟨fun b u hb => ?_, R.nd, fun b hb => ?_, R.len, fun j b o q1 q2 => ?_⟩, ?_, by simp [R.len2], fun j sw y h1 h2 => ?_, fun j l sw sx b h1 h2 h3 h4 h5 h6 => ?_⟩, OutS.later ext h⟩
      · by_cases eb : b = a
        · have hb' : upd G.fz a (.lst vs) b = some u := hb
          rw [eb, upd_same] at hb'
          rw [eb, ha]; exact hb'
        · have hb' : upd G.fz a (.lst vs) b = some u := hb
          rw [upd_ne eb] at hb'
          exact R.fzH b u hb'
      · show upd G.fz a _ b = none
        rw [upd_ne (show b ≠ a from fun z => k2 (by rw [← z]; exact hb))]
        exact R.iofz b hb
      · have q := R.obj j b o q1 q2
        cases o with
        | lst qs =>
          obtain ⟨ws, z, rr⟩ := q
          exact ⟨ws, z, rr.up ext⟩
        | ins cl ns qs =>
          obtain ⟨C, dx, fvs, z, hc, hn, rr⟩ := q
          exact ⟨C, dx, fvs, z, hc, hn, rr.up ext⟩
      · exact ⟨R.base.toGExt.trans ext, R.base.keep, R.base.live, fun b o hb hz => by
          show upd G.fz a _ b = none
          rw [upd_ne (ne_of_none hb k3)]
          exact R.base.nfz b o hb hz, R.base.nio⟩
      · rcases getq_set h1 with ⟨ej, _, e1⟩ | ⟨ne, g1⟩
        · subst ej
          rw [hσ] at h2
          cases h2
          rw [e1]
          exact ⟨.ref a, rfl, .lst (by show upd G.fz a _ a = _; exact upd_same) (r.up ext)⟩
        · have q := R.slot j sw y g1 h2
          cases sw with
          | un => trivial
          | val p =>
            obtain ⟨v, ev, rv⟩ := q
            exact ⟨v, ev, rv.up ext⟩
          | own qs =>
            obtain ⟨b, ws, e1, e2, e3, e4, e5, e6⟩ := q
            refine ⟨b, ws, e1, e2, e3.up ext, ?_, e5, e6⟩
            show upd G.fz a _ b = none
            rw [upd_ne (show b ≠ a from fun z => ne (R.dist j i _ _ a g1 e rfl rfl (by rw [h2, e1, z]) hσ))]
            exact e4
          | ins cl ns qs =>
            obtain ⟨b, C, dx, fvs, e1, es, e2, e3, e3', e3'', e4, e5, e6⟩ := q
            refine ⟨b, C, dx, fvs, e1, es, e2, e3, e3', e3''.up ext, ?_, e5, e6⟩
            show upd G.fz a _ b = none
            rw [upd_ne (show b ≠ a from fun z => ne (R.dist j i _ _ a g1 e rfl rfl (by rw [h2, e1, z]) hσ))]
            exact e4
      · rcases getq_set h1 with ⟨_, _, e1⟩ | ⟨_, g1⟩
        · rw [e1] at h3; cases h3
        · rcases getq_set h2 with ⟨_, _, e1⟩ | ⟨_, g2⟩
          · rw [e1] at h4; cases h4
          · exact R.dist j l sw sx b g1 g2 h3 h4 h5 h6
    | _ => simp only [e] at h; exact h.elim
end
end BR
set_option Elab.async false
set_option linter.all false
set_option maxRecDepth 100000
namespace BR
open PySem PySem.Spec PyProof.Rows L2
theorem str_len (s : List Nat) : (⟨s.toArray⟩ : Str).length = s.length := by show s.toArray.size = _; simp
theorem str_toList (s : List Nat) : (⟨s.toArray⟩ : Str).cps.toList = s := by simp
theorem str_app (a b : List Nat) : (⟨a.toArray⟩ : Str) ++ ⟨b.toArray⟩ = ⟨(a ++ b).toArray⟩ := by
  show Str.append _ _ = _
  simp [Str.append]
theorem str_inj {a b : List Nat} (h : (⟨a.toArray⟩ : Str) = ⟨b.toArray⟩) : a = b := by
  have := congrArg (fun z : Str => z.cps.toList) h
  simpa using this
section
variable {c : Cn} {G G' : Gh} {H H' : Hp} {st : Store} {v w : V} {Q : VK}
theorem SRel.sqT (S : SRel c H st G) {a : Addr} {vs : List V} (h : TupN G.fz a vs) : SqT c.K H a vs := sqT_fz S.fzH h.sq
theorem SRel.sqW (S : SRel c H st G) {a : Addr} {vs : List V} (h : SqT c.K G.fz a vs) : SqT c.K H a vs := sqT_fz S.fzH h
theorem SRel.sqL (S : SRel c H st G) {a : Addr} {vs : List V} (h : SqL c.K G.fz a vs) : SqL c.K H a vs := sqL_fz S.fzH h
theorem SRel.lst (S : SRel c H st G) {a : Addr} {vs : List V} (h : G.fz a = some (.lst vs)) : H a = some (.lst vs) := S.fzH _ _ h
/-- a new frozen object -/
theorem rd_new {p : Addr} {o : HO} {x : PV} (S : SRel c H st G) (hp : H p = none) (r : RepV c ⟨upd G.fz p o, G.io⟩ (.ref p) x) (q : ∀ H' G' y, Stp G H G' H' → SRel c H' st G' → RepV c G' y x → Q y H') : Q (.ref p) (upd H p o) := by
  obtain ⟨S2, s2⟩ := S.freeze (o := o) hp
  exact q _ _ _ s2 S2 r
theorem up_new {p : Addr} {o : HO} (S : SRel c H st G) (hp : H p = none) : GExt G ⟨upd G.fz p o, G.io⟩ := (S.freeze (o := o) hp).2.toGExt
theorem rd_now {x : PV} {y : V} (S : SRel c H st G) (r : RepV c G y x) (q : ∀ H' G' y, Stp G H G' H' → SRel c H' st G' → RepV c G' y x → Q y H') : Q y H := q H G y (.refl G H) S r
theorem new_tup {p : Addr} {o : Obj} {vs : List V} {ps : List PV} (S : SRel c H st G) (hp : H p = none) (hd : o.dict = none) (r : RepVs c G vs ps) : RepV c ⟨upd G.fz p (tupO o vs), G.io⟩ (.ref p) (.tup ps) := .tup ⟨o, by show upd G.fz p _ p = _; exact upd_same, hd⟩ (r.up (up_new S hp))
theorem new_wt {p : Addr} {vs : List V} {ps : List PV} (S : SRel c H st G) (hp : H p = none) (r : RepVs c G vs ps) : RepV c ⟨upd G.fz p (.tup vs), G.io⟩ (.ref p) (.wt ps) := .wt (.inl (.inl (by show upd G.fz p _ p = _; exact upd_same))) (r.up (up_new S hp))
theorem new_lst {p : Addr} {vs : List V} {ps : List PV} (S : SRel c H st G) (hp : H p = none) (r : RepVs c G vs ps) : RepV c ⟨upd G.fz p (.lst vs), G.io⟩ (.ref p) (.lst ps) := .lst (by show upd G.fz p _ p = _; exact upd_same) (r.up (up_new S hp))
end
theorem RepVs.nil_iff {c : Cn} {G : Gh} {vs : List V} {ps : List PV} (r : RepVs c G vs ps) : vs = [] ↔ ps = [] := by
  cases r with
  | nil => simp
  | cons _ _ => simp
theorem RepVs.take {c : Cn} {G : Gh} : ∀ {vs : List V} {ps : List PV} (n : Nat), RepVs c G vs ps → RepVs c G (vs.take n) (ps.take n)
  | _, _, 0, _ => .nil
  | _, _, _ + 1, .nil => .nil
  | _, _, n + 1, .cons r t => .cons r (RepVs.take n t)
theorem RepVs.drop {c : Cn} {G : Gh} : ∀ {vs : List V} {ps : List PV} (n : Nat), RepVs c G vs ps → RepVs c G (vs.drop n) (ps.drop n)
  | _, _, 0, r => r
  | _, _, _ + 1, .nil => .nil
  | _, _, n + 1, .cons _ t => RepVs.drop n t
theorem RepVs.rep {c : Cn} {G : Gh} {vs : List V} {ps : List PV} (r : RepVs c G vs ps) : ∀ n : Nat, RepVs c G (List.replicate n vs).flatten (List.replicate n ps).flatten
  | 0 => .nil
  | n + 1 => by
    rw [List.replicate_succ, List.replicate_succ, List.flatten_cons, List.flatten_cons]
    exact RepVs.app r (RepVs.rep r n)
theorem RepVs.atI {c : Cn} {G : Gh} {vs : List V} {ps : List PV} {i : Int} {p : PV} (r : RepVs c G vs ps) (h : L2.atI ps i = some p) : ∃ v, L2.atI vs i = some v ∧ RepV c G v p := by
  unfold L2.atI at h ⊢
  rw [r.len]
  cases e : ixN ps.length i with
  | none => rw [e] at h; cases h
  | some k =>
    rw [e] at h
    exact r.get h
theorem some_ite {α : Type} {a z : α} {b : Prop} [Decidable b] (h : (if b then some a else none) = some z) : b ∧ a = z := by
  by_cases hb : b
  · rw [if_pos hb] at h
    exact ⟨hb, Option.some.inj h⟩
  · rw [if_neg hb] at h
    cases h
section
variable {X : Cx} {c : Cn}
def rAddS : R2 := fun x y H Q => ∃ i j, x = .str i ∧ y = .str j ∧ i.length + j.length ≤ sizeLine ∧ Q (.str (i ++ j)) H
def rAddAll (K : PySem.W.Frag) : R2 := fun x y H Q => rI0 (fun i j => .int (i + j)) x y H Q ∨ (rAddS x y H Q ∨ (rCatN K x y H Q ∨ rCat x y H Q))
theorem op_addAll : OpR X (binaryOp .Add) (rAddAll X.K) := op_add.or (OpR.or op_add_str (op_catN.or op_cat))
theorem rd_add : Rd2 c (rAddAll c.K) pAdd := by
  intro G H st v w p q z Q S rv rw' h k
  cases rv with
  | @int i =>
    cases rw' with
    | @int j =>
      have h : some (PV.int (i + j)) = some z := h
      cases h
      exact .inl ⟨i, j, rfl, rfl, rd_now S .int k⟩
    | _ => cases h
  | @str a =>
    cases rw' with
    | @str b =>
      obtain ⟨hl, rfl⟩ := some_ite h
      refine .inr (.inl ⟨_, _, rfl, rfl, by rw [str_len, str_len]; exact lim_line hl, ?_⟩)
      rw [str_app]
      exact rd_now S .str k
    | _ => cases h
  | @tup a vs ps ha ra =>
    cases rw' with
    | @tup b ws qs hb rb =>
      obtain ⟨hl, rfl⟩ := some_ite h
      refine .inr (.inr (.inl ⟨a, b, vs, ws, rfl, rfl, S.sqT ha, S.sqT hb, by rw [ra.len, rb.len]; exact lim_line hl, fun e => ?_, fun e e2 => ?_, fun _ _ p o hp hd => ?_⟩))
      · rw [ra.nil_iff.mp e, List.nil_append] at k
        exact rd_now S (.tup hb rb) k
      · rw [rb.nil_iff.mp e2, List.append_nil] at k
        exact rd_now S (.tup ha ra) k
      · exact rd_new S hp (new_tup S hp hd (ra.app rb)) k
    | _ => cases h
  | @lst a vs ps ha ra =>
    cases rw' with
    | @lst b ws qs hb rb =>
      obtain ⟨hl, rfl⟩ := some_ite h
      exact .inr (.inr (.inr ⟨a, b, vs, ws, rfl, rfl, S.lst ha, S.lst hb, by rw [ra.len, rb.len]; exact lim_line hl, fun p hp => rd_new S hp (new_lst S hp (ra.app rb)) k⟩))
    | _ => cases h
  | _ => cases h
theorem rd_sub : Rd2 c (rI0 fun i j => .int (i - j)) pSub := by
  intro G H st v w p q z Q S rv rw' h k
  cases rv with
  | @int i =>
    cases rw' with
    | @int j =>
      have h : some (PV.int (i - j)) = some z := h
      cases h
      exact ⟨i, j, rfl, rfl, rd_now S .int k⟩
    | _ => cases h
  | _ => cases h
theorem small_ok {a : Int} (h : small a = true) : a.natAbs.log2 < 9000 := of_decide_eq_true h
def rMulS : R2 := fun x y H Q => ∃ (z : List Nat) (n : Int), x = .str ⟨z.toArray⟩ ∧ y = .int n ∧ 0 ≤ n ∧ n < 1000 ∧ z.length < 1000 ∧ Q (.str ⟨(List.replicate n.toNat z).flatten.toArray⟩) H
theorem foldl_cps (z : List Nat) : ∀ (m : Nat) (acc : List Nat), List.foldl (fun x1 x2 => x1 ++ x2) acc.toArray (List.replicate m z.toArray) = (acc ++ (List.replicate m z).flatten).toArray
  | 0, acc => by simp
  | m + 1, acc => by
    rw [List.replicate_succ, List.foldl_cons, List.append_toArray, foldl_cps z m, List.replicate_succ, List.flatten_cons, List.append_assoc]
theorem op_mulS : OpR X (binaryOp .Mult) rMulS := by
  intro pins s σ H x y v u Q I rx ry h
  obtain ⟨z, n, rfl, rfl, h0, h1, hl, q⟩ := h
  obtain ⟨t, rfl⟩ := rx
  obtain ⟨t', rfl⟩ := ry
  have hlen : (⟨z.toArray⟩ : Str).length = z.length := str_len z
  have hn63 : (2 : Int) ^ 63 = 9223372036854775808 := by decide
  have hmul : z.length * n.toNat ≤ 1000 * 1000 := Nat.mul_le_mul (by omega) (by omega)
  refine PySem.P.mul_str (by
      rw [decide_eq_false (by omega : ¬ n < -(2 ^ 63 : Int)), decide_eq_false (by omega : ¬ n ≥ 2 ^ 63)]; rfl) (fun _ _ => ?_) (fun _ _ => ?_) ?_
  · rw [hlen]
    have : (1000 : Int) ≤ (2 ^ 63 - 1) / n := by
      rw [Int.le_ediv_iff_mul_le (by omega)]
      omega
    omega
  · rw [hlen]
    exact decide_eq_false (by rw [sizeLine_eq]; omega)
  · by_cases e : n < 1
    · rw [if_pos e]
      refine ⟨by decide, .str ⟨#[]⟩, H, I.tok _, ⟨_, rfl⟩, ?_⟩
      have : n.toNat = 0 := by omega
      rw [this] at q
      exact q
    · rw [if_neg e]
      by_cases e2 : (n == 1 || (⟨z.toArray⟩ : Str).length == 0) = true
      · rw [if_pos e2]
        refine ⟨.str ⟨z.toArray⟩, H, I, ⟨_, rfl⟩, ?_⟩
        have : (List.replicate n.toNat z).flatten = z := by
          rw [hlen] at e2
          rcases Bool.or_eq_true_iff.mp e2 with q1 | q1
          · have : n.toNat = 1 := by have := beq_iff_eq.mp q1; omega
            rw [this]; simp
          · have : z = [] := List.length_eq_zero_iff.mp (beq_iff_eq.mp q1)
            rw [this]; simp
        rw [this] at q
        exact q
      · rw [if_neg e2]
        have ef : List.foldl (fun x1 x2 => x1 ++ x2) #[] (List.replicate n.toNat z.toArray) = (List.replicate n.toNat z).flatten.toArray := by
          have := foldl_cps z n.toNat []
          rw [List.nil_append] at this
          exact this
        show Made.post (Made.str ⟨List.foldl (fun x1 x2 => x1 ++ x2) #[] (List.replicate n.toNat z.toArray)⟩) _ _
        rw [ef]
        refine ⟨?_, .str _, H, I.tok _, ⟨_, rfl⟩, q⟩
        rw [str_len, List.length_flatten, List.map_replicate, List.sum_replicate_nat, sizeLine_eq]
        have : n.toNat * z.length ≤ 1000 * 1000 := Nat.mul_le_mul (by omega) (by omega)
        omega
def rMulAll : R2 := fun x y H Q => rI CMulW (fun i j => .int (i * j)) x y H Q ∨ (rRep x y H Q ∨ rMulS x y H Q)
theorem op_mulAll : OpR X (binaryOp .Mult) rMulAll := op_mulW.or (op_rep.or op_mulS)
theorem rd_mul : Rd2 c rMulAll pMul := by
  intro G H st v w p q z Q S rv rw' h k
  have hn63 : (2 : Int) ^ 63 = 9223372036854775808 := by decide
  cases rv with
  | @int i =>
    cases rw' with
    | @int j =>
      obtain ⟨hl, rfl⟩ := some_ite h
      obtain ⟨h1, h2⟩ := Bool.and_eq_true_iff.mp hl
      have a1 := small_ok h1
      have a2 := small_ok h2
      exact .inl ⟨i, j, rfl, rfl, by show _ < 1000000; omega, rd_now S .int k⟩
    | _ => cases h
  | @lst a vs ps ha ra =>
    cases rw' with
    | @int j =>
      obtain ⟨hl, rfl⟩ := some_ite h
      simp only [Bool.and_eq_true, decide_eq_true_eq] at hl
      obtain ⟨⟨h0, h1⟩, h2⟩ := hl
      refine .inr (.inl ⟨a, j, vs, rfl, rfl, S.lst ha, by omega, by omega, ?_, fun p hp => rd_new S hp (new_lst S hp (ra.rep _)) k⟩)
      rw [ra.len, sizeLine_eq]
      have : ps.length * j.toNat ≤ 1000 * 1000 := Nat.mul_le_mul (by omega) (by omega)
      omega
    | _ => cases h
  | @str a =>
    cases rw' with
    | @int j =>
      obtain ⟨hl, rfl⟩ := some_ite h
      simp only [Bool.and_eq_true, decide_eq_true_eq] at hl
      obtain ⟨⟨h0, h1⟩, h2⟩ := hl
      exact .inr (.inr ⟨a, j, rfl, rfl, h0, h1, h2, rd_now S .str k⟩)
    | _ => cases h
  | _ => cases h
theorem rd_div : Rd2 c (rI CDivW fun i j => .int (i / j)) pDiv := by
  intro G H st v w p q z Q S rv rw' h k
  cases rv with
  | @int i =>
    cases rw' with
    | @int j =>
      obtain ⟨hl, rfl⟩ := some_ite h
      simp only [Bool.and_eq_true, decide_eq_true_eq] at hl
      exact ⟨i, j, rfl, rfl, ⟨hl.1, small_ok hl.2⟩, rd_now S .int k⟩
    | _ => cases h
  | _ => cases h
theorem rd_mod : Rd2 c (rI (fun _ j => 0 < j) fun i j => .int (i % j)) pMod := by
  intro G H st v w p q z Q S rv rw' h k
  cases rv with
  | @int i =>
    cases rw' with
    | @int j =>
      obtain ⟨hl, rfl⟩ := some_ite h
      simp only [decide_eq_true_eq] at hl
      exact ⟨i, j, rfl, rfl, hl, rd_now S .int k⟩
    | _ => cases h
  | _ => cases h
theorem rd_pow : Rd2 c (rI CPow fun i j => .int (i ^ j.toNat)) pPow := by
  intro G H st v w p q z Q S rv rw' h k
  cases rv with
  | @int i =>
    cases rw' with
    | @int j =>
      obtain ⟨hl, rfl⟩ := some_ite h
      simp only [decide_eq_true_eq] at hl
      exact ⟨i, j, rfl, rfl, ⟨hl.1, by omega, hl.2.2⟩, rd_now S .int k⟩
    | _ => cases h
  | _ => cases h
theorem rd_neg : Rd1 c (rU fun i => .int (-i)) pNeg := by
  intro G H st v p z Q S rv h k
  cases rv with
  | @int i =>
    have h : some (PV.int (-i)) = some z := h
    cases h
    exact ⟨i, rfl, rd_now S .int k⟩
  | _ => cases h
def rLtS : R2 := fun x y H Q => ∃ i j, x = .str i ∧ y = .str j ∧ Q (.bl (decide (i.cps.toList < j.cps.toList))) H
def rLtAll : R2 := fun x y H Q => rI0 (fun i j => .bl (decide (i < j))) x y H Q ∨ rLtS x y H Q
theorem op_ltAll : OpR X (compareOp .Lt) rLtAll := op_lt.or op_lt_str
theorem rd_lt : Rd2 c rLtAll pLt := by
  intro G H st v w p q z Q S rv rw' h k
  cases rv with
  | @int i =>
    cases rw' with
    | @int j =>
      have h : some (PV.bl (decide (i < j))) = some z := h
      cases h
      exact .inl ⟨i, j, rfl, rfl, rd_now S .bl k⟩
    | _ => cases h
  | @str a =>
    cases rw' with
    | @str b =>
      have h : some (PV.bl (decide (a < b))) = some z := h
      cases h
      refine .inr ⟨_, _, rfl, rfl, ?_⟩
      rw [str_toList, str_toList]
      exact rd_now S .bl k
    | _ => cases h
  | _ => cases h
theorem rd_gt : Rd2 c (rI0 fun i j => .bl (decide (j < i))) pGt := by
  intro G H st v w p q z Q S rv rw' h k
  cases rv with
  | @int i =>
    cases rw' with
    | @int j =>
      have h : some (PV.bl (decide (j < i))) = some z := h
      cases h
      exact ⟨i, j, rfl, rfl, rd_now S .bl k⟩
    | _ => cases h
  | _ => cases h
theorem rd_ge : Rd2 c (rI0 fun i j => .bl (decide (j ≤ i))) pGe := by
  intro G H st v w p q z Q S rv rw' h k
  cases rv with
  | @int i =>
    cases rw' with
    | @int j =>
      have h : some (PV.bl (decide (j ≤ i))) = some z := h
      cases h
      exact ⟨i, j, rfl, rfl, rd_now S .bl k⟩
    | _ => cases h
  | _ => cases h
mutual
def pd : PV → PyData
  | .non => .none
  | .bl b => .bool b
  | .int i => .int i
  | .str s => .str ⟨s.toArray⟩
  | .tup xs => .tuple (pds xs)
  | .lst xs => .list (pds xs)
  | _ => .none
def pds : List PV → List PyData
  | [] => []
  | x :: xs => pd x :: pds xs
end
mutual
theorem pd_can : ∀ (p : PV) (n : Nat), plain n p = true → (pd p).canLay0 = true ∧ (pd p).depth ≤ n
  | .non, _, _ => ⟨rfl, Nat.zero_le _⟩
  | .bl _, _, _ => ⟨rfl, Nat.zero_le _⟩
  | .int _, _, _ => ⟨rfl, Nat.zero_le _⟩
  | .str s, n, h => ⟨by
      have h' : (s.all fun x => decide (x < 1114112)) = true := h
      show (s.toArray.all fun x => decide (x < 0x110000)) = true
      simpa using h', Nat.zero_le _⟩
  | .tup xs, 0, h => by cases h
  | .tup xs, n + 1, h => by
    obtain ⟨h1, h2⟩ := pds_can xs n h
    exact ⟨h1, by show PyData.depthAll (pds xs) + 1 ≤ n + 1; omega⟩
  | .lst xs, 0, h => by cases h
  | .lst xs, n + 1, h => by
    obtain ⟨h1, h2⟩ := pds_can xs n h
    exact ⟨h1, by show PyData.depthAll (pds xs) + 1 ≤ n + 1; omega⟩
  | .dct _ _, _, h => by cases h
  | .ins _ _ _, _, h => by cases h
  | .scr _, _, h => by cases h
  | .wt _, _, h => by cases h
  | .ref _, _, h => by cases h
theorem pds_can : ∀ (ps : List PV) (n : Nat), plains n ps = true → PyData.canLayAll0 (pds ps) = true ∧ PyData.depthAll (pds ps) ≤ n
  | [], _, _ => ⟨rfl, Nat.zero_le _⟩
  | p :: ps, n, h => by
    obtain ⟨h1, h2⟩ := Bool.and_eq_true_iff.mp (show (plain n p && plains n ps) = true from h)
    obtain ⟨a1, a2⟩ := pd_can p n h1
    obtain ⟨b1, b2⟩ := pds_can ps n h2
    exact ⟨by show ((pd p).canLay0 && PyData.canLayAll0 (pds ps)) = true; rw [a1, b1]; rfl, by show max (pd p).depth (PyData.depthAll (pds ps)) ≤ n; omega⟩
end
theorem str_beq (a b : List Nat) : ((⟨a.toArray⟩ : Str) == ⟨b.toArray⟩) = decide (a = b) := by
  by_cases e : a = b
  · subst e
    simp
  · rw [decide_eq_false e]
    exact beq_eq_false_iff_ne.mpr fun z => e (str_inj z)
mutual
theorem pd_eqv : ∀ (p q : PV) (n m : Nat), plain n p = true → plain m q = true → PyData.eqv (pd p) (pd q) = eqv p q
  | .non, q, n, m, hp, hq => by cases q <;> first | rfl | cases hq
  | .bl a, q, n, m, hp, hq => by
    cases q with
    | bl b => rfl
    | int j => show (_ == _) = decide _; rw [Bool.beq_eq_decide_eq]
    | _ => first | rfl | cases hq
  | .int i, q, n, m, hp, hq => by
    cases q with
    | int j => show (i == j) = decide _; rw [Bool.beq_eq_decide_eq]
    | bl b => show (_ == _) = decide _; rw [Bool.beq_eq_decide_eq]
    | _ => first | rfl | cases hq
  | .str s, q, n, m, hp, hq => by
    cases q with
    | str t => exact str_beq s t
    | _ => first | rfl | cases hq
  | .tup xs, q, 0, m, hp, hq => by cases hp
  | .tup xs, q, n + 1, m, hp, hq => by
    cases q with
    | tup ys =>
      cases m with
      | zero => cases hq
      | succ m => exact pds_eqv xs ys n m hp hq
    | _ => first | rfl | cases hq
  | .lst xs, q, 0, m, hp, hq => by cases hp
  | .lst xs, q, n + 1, m, hp, hq => by
    cases q with
    | lst ys =>
      cases m with
      | zero => cases hq
      | succ m => exact pds_eqv xs ys n m hp hq
    | _ => first | rfl | cases hq
  | .dct _ _, _, _, _, h, _ => by cases h
  | .ins _ _ _, _, _, _, h, _ => by cases h
  | .scr _, _, _, _, h, _ => by cases h
  | .wt _, _, _, _, h, _ => by cases h
  | .ref _, _, _, _, h, _ => by cases h
theorem pds_eqv : ∀ (ps qs : List PV) (n m : Nat), plains n ps = true → plains m qs = true → PyData.eqvAll (pds ps) (pds qs) = eqvs ps qs
  | [], [], _, _, _, _ => rfl
  | [], _ :: _, _, _, _, _ => rfl
  | _ :: _, [], _, _, _, _ => rfl
  | p :: ps, q :: qs, n, m, hp, hq => by
    obtain ⟨h1, h2⟩ := Bool.and_eq_true_iff.mp (show (plain n p && plains n ps) = true from hp)
    obtain ⟨g1, g2⟩ := Bool.and_eq_true_iff.mp (show (plain m q && plains m qs) = true from hq)
    show (PyData.eqv (pd p) (pd q) && PyData.eqvAll (pds ps) (pds qs)) = (eqv p q && eqvs ps qs)
    rw [pd_eqv p q n m h1 g1, pds_eqv ps qs n m h2 g2]
end
mutual
theorem dp_of {G : Gh} {H : Hp} {st : Store} (S : SRel c H st G) : ∀ (p : PV) (v : V) (n : Nat), RepV c G v p → plain n p = true → Dp c.K H v (pd p)
  | .non, _, _, r, _ => by cases r; exact .non
  | .bl b, _, _, r, _ => by cases r; exact .bl b
  | .int i, _, _, r, _ => by cases r; exact .int i
  | .str s, _, _, r, _ => by cases r; exact .str _
  | .tup xs, _, 0, r, h => by cases h
  | .tup xs, _, n + 1, r, h => by
    cases r with
    | tup h1 h2 => exact .tup (S.sqT h1) (dps_of S xs _ n h2 h)
  | .lst xs, _, 0, r, h => by cases h
  | .lst xs, _, n + 1, r, h => by
    cases r with
    | lst h1 h2 => exact .lst (SqL.of (S.lst h1)) (dps_of S xs _ n h2 h)
  | .dct _ _, _, _, _, h => by cases h
  | .ins _ _ _, _, _, _, h => by cases h
  | .scr _, _, _, _, h => by cases h
  | .wt _, _, _, _, h => by cases h
  | .ref _, _, _, _, h => by cases h
theorem dps_of {G : Gh} {H : Hp} {st : Store} (S : SRel c H st G) : ∀ (ps : List PV) (vs : List V) (n : Nat), RepVs c G vs ps → plains n ps = true → DpAll c.K H vs (pds ps)
  | [], _, _, r, _ => by cases r; exact .nil
  | p :: ps, _, n, r, h => by
    obtain ⟨h1, h2⟩ := Bool.and_eq_true_iff.mp (show (plain n p && plains n ps) = true from h)
    cases r with
    | cons r1 r2 => exact .cons (dp_of S p _ n r1 h1) (dps_of S ps _ n r2 h2)
end
theorem shaped8 {p : PV} (h : plain 8 p = true) : SeqAt.shaped (pd p) = true := by
  obtain ⟨h1, h2⟩ := pd_can p 8 h
  show ((pd p).canLay0 && decide ((pd p).depth ≤ 64)) = true
  rw [h1, decide_eq_true (by omega)]; rfl
theorem rd_eq : Rd2 c (rEqD c.K) pEq := by
  intro G H st v w p q z Q S rv rw' h k
  obtain ⟨hl, rfl⟩ := some_ite h
  obtain ⟨h1, h2⟩ := Bool.and_eq_true_iff.mp hl
  refine ⟨pd p, pd q, dp_of S p v 8 rv h1, dp_of S q w 8 rw' h2, shaped8 h1, shaped8 h2, ?_⟩
  rw [pd_eqv p q 8 8 h1 h2]
  exact rd_now S .bl k
theorem rd_ne : Rd2 c (rNeD c.K) pNe := by
  intro G H st v w p q z Q S rv rw' h k
  obtain ⟨hl, rfl⟩ := some_ite h
  obtain ⟨h1, h2⟩ := Bool.and_eq_true_iff.mp hl
  refine ⟨pd p, pd q, dp_of S p v 8 rv h1, dp_of S q w 8 rw' h2, shaped8 h1, shaped8 h2, ?_⟩
  rw [pd_eqv p q 8 8 h1 h2]
  exact rd_now S .bl k
theorem strs_vs {G : Gh} : ∀ {xs : List PV} {l : List (List Nat)} {vs : List V}, strs? xs = some l → RepVs c G vs xs → vs = l.map fun s => V.str ⟨s.toArray⟩
  | [], l, vs, h, r => by
    have h : some ([] : List (List Nat)) = some l := h
    cases h
    cases r
    rfl
  | x :: xs, l, vs, h, r => by
    cases r with
    | @cons v _ vs' _ r1 r2 =>
      cases x with
      | str s =>
        have h : (strs? xs).map (fun l => s :: l) = some l := h
        cases e : strs? xs with
        | none => rw [e] at h; cases h
        | some l' =>
          rw [e] at h
          have h : some (s :: l') = some l := h
          cases h
          cases r1
          rw [strs_vs e r2]
          rfl
      | _ => cases h
theorem strs_flat (l : List (List Nat)) : (l.map fun s => V.str ⟨s.toArray⟩).all flatV = true := by
  rw [List.all_map]
  exact List.all_eq_true.mpr fun _ _ => rfl
theorem strs_in (d : List Nat) : ∀ l : List (List Nat), inV (.str ⟨d.toArray⟩) (l.map fun s => V.str ⟨s.toArray⟩) = l.any fun z => decide (z = d)
  | [] => rfl
  | s :: l => by
    have ih := strs_in d l
    unfold inV at ih ⊢
    rw [List.map_cons, List.any_cons, List.any_cons, ih]
    congr 1
    exact str_beq s d
def rInS (neg : Bool) : R2 := fun x y H Q => ∃ (d : Nat) (z : Str), x = .str ⟨#[d]⟩ ∧ y = .str z ∧ Q (.bl (if neg then !decide (d ∈ z.cps.toList) else decide (d ∈ z.cps.toList))) H
def rInAll (K : PySem.W.Frag) (neg : Bool) : R2 := fun x y H Q => rInS neg x y H Q ∨ rIn K neg x y H Q
theorem op_inAll : OpR X (compareOp .In) (rInAll X.K false) := by
  intro pins s σ H x y v u Q I rx ry h
  rcases h with h | h
  · exact op_in_sign pins s σ H x y v u Q I rx ry h
  · exact op_in_seq pins s σ H x y v u Q I rx ry h
theorem inStr_one {d s : List Nat} {b : Bool} (h : inStr d s = some b) : ∃ k, d = [k] ∧ b = decide (k ∈ s) := by
  cases d with
  | nil => cases h
  | cons k r =>
    cases r with
    | nil =>
      have h : some (decide (k ∈ s)) = some b := h
      cases h
      exact ⟨k, rfl, rfl⟩
    | cons _ _ => cases h
theorem rd_in : Rd2 c (rInAll c.K false) pIn := by
  intro G H st v w p q z Q S rv rw' h k
  cases rv with
  | @str d =>
    cases rw' with
    | @str s =>
      have h : (inStr d s).map PV.bl = some z := h
      cases e : inStr d s with
      | none => rw [e] at h; cases h
      | some b =>
        rw [e] at h
        have h : some (PV.bl b) = some z := h
        cases h
        obtain ⟨m, rfl, rfl⟩ := inStr_one e
        refine .inl ⟨m, _, rfl, rfl, ?_⟩
        rw [if_neg Bool.false_ne_true, str_toList]
        exact rd_now S .bl k
    | @tup a vs ps ha ra =>
      have h : (strs? ps).map (fun l => PV.bl (l.any fun z => decide (z = d))) = some z := h
      cases e : strs? ps with
      | none => rw [e] at h; cases h
      | some l =>
        rw [e] at h
        have h : some (PV.bl (l.any fun z => decide (z = d))) = some z := h
        cases h
        have ev := strs_vs e ra
        subst ev
        refine .inr ⟨a, _, rfl, .inr (S.sqT ha), rfl, strs_flat l, ?_⟩
        rw [if_neg Bool.false_ne_true, strs_in]
        exact rd_now S .bl k
    | _ => cases h
  | _ => cases h
theorem isNone_rep {G : Gh} {v : V} {p : PV} (r : RepV c G v p) : decide (v = .non) = p.isNone := by
  cases r <;> first | rfl | exact decide_eq_false (fun z => nomatch z)
theorem rd_isN : Rd2 c (fun x y H Q => y = .non ∧ Q (.bl (decide (x = .non))) H) pIsN := by
  intro G H st v w p q z Q S rv rw' h k
  cases rw' with
  | non =>
    have h : some (PV.bl p.isNone) = some z := h
    cases h
    refine ⟨rfl, ?_⟩
    rw [isNone_rep rv]
    exact rd_now S .bl k
  | _ => cases h
theorem atI_map {α β : Type} (f : α → β) (xs : List α) (i : Int) : L2.atI (xs.map f) i = (L2.atI xs i).map f := by
  unfold L2.atI
  rw [List.length_map]
  cases ixN xs.length i with
  | none => rfl
  | some k => simp
theorem rd_ix : Rd2 c (rIx c.K) pIdx := by
  intro G H st v w p q z Q S rv rw' h k
  cases rw' with
  | @int i =>
    cases rv with
    | @tup a vs ps ha ra =>
      obtain ⟨v, h1, h2⟩ := ra.atI (show L2.atI ps i = some z from h)
      exact .inr (.inl ⟨a, vs, i, v, rfl, rfl, S.sqT ha, h1, rd_now S h2 k⟩)
    | @lst a vs ps ha ra =>
      obtain ⟨v, h1, h2⟩ := ra.atI (show L2.atI ps i = some z from h)
      exact .inl ⟨a, vs, i, v, rfl, rfl, SqL.of (S.lst ha), h1, rd_now S h2 k⟩
    | @scr a ns ha =>
      have h : (L2.atI ns i).map PV.int = some z := h
      cases e : L2.atI ns i with
      | none => rw [e] at h; cases h
      | some n =>
        rw [e] at h
        have h : some (PV.int n) = some z := h
        cases h
        exact .inl ⟨a, _, i, .int n, rfl, rfl, S.sqL ha, by rw [atI_map, e]; rfl, rd_now S .int k⟩
    | @str s =>
      by_cases hl : s.length ≤ lim
      · have h : (if s.length ≤ lim then (L2.atI s i).map fun c => PV.str [c] else none) = some z := h
        rw [if_pos hl] at h
        cases e : L2.atI s i with
        | none => rw [e] at h; cases h
        | some n =>
          rw [e] at h
          have h : some (PV.str [n]) = some z := h
          cases h
          refine .inr (.inr ⟨_, i, n, rfl, rfl, by rw [str_len]; exact lim_line hl, by rw [str_toList]; exact e, ?_⟩)
          exact rd_now S (.str (s := [n])) k
      · have h : (if s.length ≤ lim then (L2.atI s i).map fun c => PV.str [c] else none) = some z := h
        rw [if_neg hl] at h
        cases h
    | _ => cases h
  | _ => cases rv <;> cases h
theorem rep1 {G : Gh} {vs : List V} {p : PV} (r : RepVs c G vs [p]) : ∃ v, vs = [v] ∧ RepV c G v p := by
  cases r with
  | cons r1 r2 => cases r2; exact ⟨_, rfl, r1⟩
theorem rd_abs : RdN c (fun xs H Q => ∃ i, xs = [.int i] ∧ Q (.int (if i < 0 then -i else i)) H) nAbs := by
  intro G H st vs ps z Q S r h k
  cases ps with
  | nil => cases h
  | cons p ps =>
    cases ps with
    | cons _ _ => cases p <;> cases h
    | nil =>
      obtain ⟨v, rfl, r1⟩ := rep1 r
      cases r1 with
      | @int i =>
        have h : some (PV.int (if i < 0 then -i else i)) = some z := h
        cases h
        exact ⟨i, rfl, rd_now S .int k⟩
      | _ => cases h
def rLenA (K : PySem.W.Frag) : List V → Hp → VK → Prop := fun xs H Q => ∃ x n, xs = [x] ∧ LenV K x H n ∧ Q (.int n) H
theorem rd_len : RdN c (rLenA c.K) nLen := by
  intro G H st vs ps z Q S r h k
  cases ps with
  | nil => cases h
  | cons p ps =>
    cases ps with
    | cons _ _ => cases p <;> cases h
    | nil =>
      obtain ⟨v, rfl, r1⟩ := rep1 r
      cases r1 with
      | @tup a vs ps ha ra =>
        have h : some (PV.int ps.length) = some z := h
        cases h
        exact ⟨_, ps.length, rfl, .inr ⟨vs, S.sqT ha, ra.len.symm⟩, rd_now S .int k⟩
      | @lst a vs ps ha ra =>
        have h : some (PV.int ps.length) = some z := h
        cases h
        exact ⟨_, ps.length, rfl, .inl ⟨vs, SqL.of (S.lst ha), ra.len.symm⟩, rd_now S .int k⟩
      | @scr a ns ha =>
        have h : some (PV.int ns.length) = some z := h
        cases h
        exact ⟨_, ns.length, rfl, .inl ⟨_, S.sqL ha, by rw [List.length_map]⟩, rd_now S .int k⟩
      | @str s =>
        obtain ⟨hl, rfl⟩ := some_ite h
        exact ⟨_, s.length, rfl, ⟨by rw [str_len]; exact lim_line hl, str_len s⟩, rd_now S .int k⟩
      | _ => cases h
def rInt : List V → Hp → VK → Prop := fun xs H Q => ((∃ i, xs = [.int i] ∧ Q (.int i) H) ∨ ∃ k, xs = [.bl k] ∧ Q (.int (if k then 1 else 0)) H) ∨ ∃ a n, xs = [.str a] ∧ PySem.intText? a = some n ∧ a.length ≤ 640 ∧ Q (.int n) H
theorem call_intA : CallR X (.type "int") rInt := by
  intro pins s σ H xs us Q I rs h
  rcases h with h | h
  · exact call_int1 pins s σ H xs us Q I rs h
  · exact call_int_str pins s σ H xs us Q I rs h
theorem digit_text (k : Nat) (h : 48 ≤ k ∧ k ≤ 57) : PySem.intText? ⟨#[k]⟩ = some ((k : Int) - 48) := by
  have : k = 48 ∨ k = 49 ∨ k = 50 ∨ k = 51 ∨ k = 52 ∨ k = 53 ∨ k = 54 ∨ k = 55 ∨ k = 56 ∨ k = 57 := by omega
  rcases this with rfl | rfl | rfl | rfl | rfl | rfl | rfl | rfl | rfl | rfl <;> decide +kernel
theorem rd_int : RdN c rInt nInt := by
  intro G H st vs ps z Q S r h k
  cases ps with
  | nil => cases h
  | cons p ps =>
    cases ps with
    | cons _ _ => cases p <;> first | cases h | (rename_i s; cases s <;> first | cases h | (rename_i _ t; cases t <;> cases h))
    | nil =>
      obtain ⟨v, rfl, r1⟩ := rep1 r
      cases r1 with
      | @int i =>
        have h : some (PV.int i) = some z := h
        cases h
        exact .inl (.inl ⟨i, rfl, rd_now S .int k⟩)
      | @bl b =>
        have h : some (PV.int (if b then 1 else 0)) = some z := h
        cases h
        exact .inl (.inr ⟨b, rfl, rd_now S .int k⟩)
      | @str s =>
        cases s with
        | nil => cases h
        | cons d t =>
          cases t with
          | cons _ _ => cases h
          | nil =>
            obtain ⟨hl, rfl⟩ := some_ite h
            have hl := of_decide_eq_true hl
            exact .inr ⟨_, _, rfl, digit_text d hl, Nat.le_trans (show 1 ≤ 1 from Nat.le_refl 1) (by decide), rd_now S .int k⟩
      | _ => cases h
theorem rd_tuple : RdN c (rTupN c.K) nTuple := by
  intro G H st vs ps z Q S r h k
  cases ps with
  | nil => cases h
  | cons p ps =>
    cases ps with
    | cons _ _ => cases p <;> cases h
    | nil =>
      obtain ⟨v, rfl, r1⟩ := rep1 r
      cases r1 with
      | @tup a vs ps ha ra =>
        have h : some (PV.tup ps) = some z := h
        cases h
        exact ⟨a, vs, rfl, .inr ⟨S.sqT ha, rd_now S (.tup ha ra) k⟩⟩
      | @lst a vs ps ha ra =>
        have h : some (PV.tup ps) = some z := h
        cases h
        exact ⟨a, vs, rfl, .inl ⟨SqL.of (S.lst ha), fun l o hl hd => rd_new S hl (new_tup S hl hd ra) k⟩⟩
      | _ => cases h
end
end BR
set_option Elab.async false
set_option linter.all false
set_option maxRecDepth 100000
namespace BR
open PySem PySem.Spec PyProof.Rows L2
theorem turn_long {P : Program} {w : World} {K : PySem.W.Frag} {tg : Expr} (it : Addr) (lo : Int) (n : Nat) : Turn P w K tg (Itr lo n) [it] it (fun i h => IsLongIter h it (lo + (i : Nat) * 1) ((n : Int) - (i : Nat)) 1) where
  mem := by simp
  obj := fun i h st b hb => by
    have e : b = it := by simpa using hb
    subst e
    exact ⟨_, st, fun v z => by
      have z' : Data.fields _ = Data.cell v := z
      cases z'⟩
  keep := fun i h h' st k => k it (by simp) _ st
  item := by
    intro X hP hw hK hc i pins s σ H E I hf st hg
    subst hP hw hK
    obtain ⟨f0, f1, f2, f3, f4, f5⟩ := hf it (by simp)
    have W := Walks.longrange (prog := X.prog) (w := X.w) (I.ok.hd hc) it lo 1 n
    refine W.item i s _ _ hg st fun v h' tk hv st' kk => ?_
    obtain ⟨t, rfl⟩ := hv
    have I1 : Inv X pins σ H { s with heap := h', toks := tk } := I.turned (fun b o hb e => kk b o (by simpa using hb) e) f0 f1 f3 f4 f5
    refine ⟨_, rfl, go_of (s := { s with heap := h', toks := tk }) (n := "longrange_iterator") st' rfl rfl (by decide) ⟨.int (lo + i), H, I1, ⟨t, ?_⟩, ⟨rfl, rfl⟩, st', fun b hb => (hf b hb).1⟩⟩
    rw [Int.mul_one]
  done := by
    intro X hP hw hK hc i pins s σ H E I hf st hg
    subst hP hw hK
    obtain ⟨f0, f1, f2, f3, f4, f5⟩ := hf it (by simp)
    exact wpAny_pyNext_long_end (I.ok.hd hc) st (by have : n ≤ i := hg; omega) fun h' eb => ⟨rfl, I.turned (t' := s.toks) (fun b o hb e => eb b o hb e) f0 f1 f3 f4 f5⟩
  self := fun _ _ _ _ _ st h => wpAny_pyIter_longiter st h
section
variable {X : Cx} {tg : Expr}
theorem range_itA {pins : List (Addr × Obj)} {σ : L2.St} {H : Hp} {s : Shared} {R : It → Hp → Prop} {E : Value → Shared → Prop} {lo hi : Int} {t u v : Tok} {tk : Nat} (I : Inv X pins σ H s)
    (q : R (Itr lo (hi - lo).toNat) H) : wpAny (model X.prog X.w) X.A (pyIter (.ref s.heap.objs.size)) (PIE X pins σ tg R) E { s with heap := s.heap.push { cls := .type "range", data := .fields #[.int lo t, .int hi u, .int 1 v] }, toks := tk } := by
  have I1 : Inv X pins σ H { s with heap := s.heap.push { cls := .type "range", data := .fields #[.int lo t, .int hi u, .int 1 v] }, toks := tk } := I.kept fun b o e => Heap.get?_push_of_some _ e
  have e1 : lo + ((0 : Nat) : Int) * 1 = lo := by simp
  have e2 : (((hi - lo).toNat : Nat) : Int) - ((0 : Nat) : Int) = Builtin.Range.rangeSize lo hi 1 := by rw [rangeSize_one]; split <;> omega
  have ff : ∀ b ∈ [(s.heap.push { cls := .type "range", data := .fields #[.int lo t, .int hi u, .int 1 v] }).objs.size], FpOk X pins H b := fun b hb => by
    have e : b = (s.heap.push { cls := .type "range", data := .fields #[.int lo t, .int hi u, .int 1 v] }).objs.size := by simpa using hb
    subst e
    exact I1.fpOk (Nat.le_refl _) (I1.hok.fresh (Nat.le_refl _))
  cases hs : Builtin.Range.small lo hi 1 with
  | true =>
    refine wpAny_pyIter_range (IsRange.new ..) hs ?_
    refine ⟨(s.heap.push { cls := .type "range", data := .fields #[.int lo t, .int hi u, .int 1 v] }).objs.size, _, _, _, H, rfl,
      I1.kept (t' := tk) fun b o e => Heap.get?_push_of_some _ e, turn_range _ lo (hi - lo).toNat, ?_, ff, q⟩
    show IsRangeIter _ _ (lo + ((0 : Nat) : Int) * 1) ((((hi - lo).toNat : Nat) : Int) - ((0 : Nat) : Int)) 1
    rw [e1, e2]
    exact Heap.get?_push_size _ rfl
  | false =>
    refine wpAny_pyIter_longrange (IsRange.new ..) hs ?_
    refine ⟨(s.heap.push { cls := .type "range", data := .fields #[.int lo t, .int hi u, .int 1 v] }).objs.size, _, _, _, H, rfl,
      I1.kept (t' := tk) fun b o e => Heap.get?_push_of_some _ e, turn_long _ lo (hi - lo).toNat, ?_, ff, q⟩
    show IsLongIter _ _ (lo + ((0 : Nat) : Int) * 1) ((((hi - lo).toNat : Nat) : Int) - ((0 : Nat) : Int)) 1
    rw [e1, e2]
    exact Heap.get?_push_size _ rfl
def iRngA (ta : TA) : TI := fun σ H R => ta σ H fun vs H1 => ∃ i j : Int, vs = [.int i, .int j] ∧ R (Itr i (j - i).toNat) H1
theorem pi_rangeA {a b : Expr} {ta : TA} {p pos : Pos} (hg : Gl X "range") (hm : X.mg "range" = none) (ha : PA X [a, b] ta) (hs : starEach [a, b] X.env = [(false, eval a X.env), (false, eval b X.env)] := by rfl) (hs2 : starEach [b] X.env = [(false, eval b X.env)] := by rfl) :
    PI X tg (.Call (.Name "range" p) [a, b] [] pos) (iRngA ta) := by
  refine ⟨fun pins s σ H R I h => ?_⟩
  refine Call_ (ld_blt I hg hm boot_range (PyProof.Rows.callWith_type1 (thn (ha.run pos pins s σ H _ I h) fun us s1 ⟨vs, H1, I1, r1, q1⟩ => ?_) (by rw [hs, hs2]) (by rw [hs2]; rfl)))
  obtain ⟨i, j, e, q⟩ := q1
  subst e
  cases r1 with
  | cons r rr =>
    cases rr with
    | cons r' rr =>
      cases rr
      obtain ⟨t, rfl⟩ := r
      obtain ⟨t', rfl⟩ := r'
      exact call_range_2 (range_itA I1 q)
end
end BR
set_option Elab.async false
set_option linter.all false
set_option maxRecDepth 100000
namespace BR
open PySem PySem.Spec PyProof.Rows L2
def spF (c : Cn) (run : List PV → Store → R SV) : Sp := fun vs H Q E => ∃ ps st G, SRel c H st G ∧ RepVs c G vs ps ∧ Out c (rpF c) G H Q E (run ps st)
theorem runFn_args {T : Nat → Option Fn} {k id : Nat} {fn : Fn} {ps : List PV} {st : Store} (hT : T id = some fn) (h : runFn T k id ps st ≠ .bad) : ps.length = fn.ps := by
  cases k with
  | zero => exact absurd rfl h
  | succ k =>
    unfold runFn at h
    rw [hT] at h
    by_cases e : ps.length = fn.ps
    · exact e
    · exact absurd (if_neg e) h
theorem Out.notBad {α β : Type} {c : Cn} {rep : Hp → Gh → Hp → β → α → Prop} {G : Gh} {H : Hp} {Q : β → Hp → Prop} {E : XK} {r : R α} (h : Out c rep G H Q E r) : r ≠ .bad := fun e => by rw [e] at h; exact h
section
variable {P : Program} {w : World} {K : PySem.W.Frag} {mg : Str → Option Value} {base : Heap} {cm : Nat → Option Addr} {T : Nat → Option Fn}
theorem slot_start (c : Cn) {B : Bs} {G : Gh} {H : Hp} : ∀ {vs : List V} {ps : List PV} (n : Nat) (i : Nat) (sv : SV) (x : Option V), RepVs c G vs ps → (ps.map SV.val ++ List.replicate n SV.un)[i]? = some sv → (vs.map some ++ List.replicate n (none : Option V))[i]? = some x → SlotOk c B G H x sv ∧ sv.isOwn = false := by
  intro vs ps n i sv x r h1 h2
  by_cases hi : i < ps.length
  · rw [List.getElem?_append_left (by simpa using hi), List.getElem?_map] at h1
    rw [List.getElem?_append_left (by simpa [r.len] using hi), List.getElem?_map] at h2
    cases e : ps[i]? with
    | none => rw [e] at h1; cases h1
    | some p =>
      obtain ⟨v, hv, rv⟩ := r.get e
      rw [e] at h1
      rw [hv] at h2
      cases h1
      cases h2
      exact ⟨⟨v, rfl, rv⟩, rfl⟩
  · rw [List.getElem?_append_right (by simpa using Nat.le_of_not_lt hi), List.getElem?_replicate] at h1
    split at h1
    · cases h1
      exact ⟨trivial, rfl⟩
    · cases h1
theorem ok_def {x qual : Str} {params : Arguments} {body : List Stmt} {scope : Scope} {f : Addr} {fd : FuncData} {N ps : List Str} {j k id : Nat} {fn : Fn} (F : FunD K x qual params body scope [] [] f fd) (S : FnScope N ps scope) (hT : T id = some fn) (hini : fn.ini = none) (hps : fn.ps = ps.length) (hn : fn.n = N.length)
    (hbody : ∀ (cdv : Value) (A : Around) (outer : List PySem.Env) (s : Shared) (H : Hp) (E : XK), Room j (A.deeper (envOfC qual scope s.heap.objs.size f cdv)) →
      CSs cm (cxOf (L2.CX P w) P w K mg base N qual scope f cdv A outer s H E) (fun cls d _ H' => E cls d H') (fn.body (runFn T k)) body) :
    FnOk P w K mg base (L2.CX P w) (j + 1) f fd ps (spF ⟨P, w, K, cm⟩ (runFn T (k + 1) id)) := by
  refine F.ok S (fun vs H Q E h => ?_) (fun cdv A outer s H vs Q E hr h => ?_)
  · obtain ⟨qs, st, G, _, r, h⟩ := h
    rw [r.len, runFn_args hT h.notBad, hps]
  · obtain ⟨qs, st, G, S0, r, h⟩ := h
    have hl : qs.length = fn.ps := runFn_args hT h.notBad
    have e1 : startE fn qs = qs.map SV.val ++ List.replicate (fn.n - fn.ps) SV.un := by unfold startE; rw [hini]
    have e2 : L2.start N vs = vs.map some ++ List.replicate (fn.n - fn.ps) (none : Option V) := by unfold L2.start; rw [r.len, hl, hn]
    have R0 : Rel ⟨P, w, K, cm⟩ ⟨G, H, none⟩ (L2.start N vs) (startE fn qs) H st G := by
      refine ⟨S0, .refl G H, ?_, fun i sv x h1 h2 => ?_, fun i j sv sw a h1 h2 h3 h4 h5 h6 => ?_⟩
      · rw [e1, e2]
        simp [r.len]
      · rw [e1] at h1
        rw [e2] at h2
        exact (slot_start _ _ i sv x r h1 h2).1
      · rw [e1] at h1
        rw [e2] at h5
        have z := (slot_start ⟨P, w, K, cm⟩ (B := ⟨G, H, none⟩) (H := H) _ i sv _ r h1 h5).2
        rw [h3] at z
        cases z
    refine ⟨_, hbody cdv A outer s H E hr, ⟨⟨G, H, none⟩, startE fn qs, st, G, R0, ?_⟩⟩
    unfold runFn at h
    rw [hT] at h
    simp only [hl, if_true, hini] at h
    generalize hr : fn.body (runFn T k) (startE fn qs) st = rr at h
    cases rr with
    | next ρ st1 => exact fun σ' H' G' ex R' => h H' G' .non R'.base R'.toSRel .non
    | ret sv st1 => exact fun H' G' x ex S' s' rp => h H' G' x s' S' rp
    | ex cl ns vs ρ st1 => exact fun σ' H' G' cls d ex R' er => h H' G' cls d R'.base R'.toSRel er
    | brk _ _ => exact h.elim
    | cnt _ _ => exact h.elim
    | bad => exact h.elim
end
section
variable {cm : Nat → Option Addr} {X : Cx} {W : WX} {pos p : Pos} {call : CallT} {id k : Nat} {f : Addr} {fd : FuncData} {ps : List Str} {x : Str} {ar : AM} {e : Expr} {es : List Expr}
theorem cf_call (F : FnOk X.prog X.w X.K X.mg X.base (L2.CX X.prog X.w) k f fd ps (spF (cnOf X cm) (call id))) (hr : Room k X.A) (hm : X.mg x = some (.ref f)) (hk : PySem.W.keepIn X.K (.ref f) = true) (hb : Binds X.K fd ps []) (tk : Takes X W) (ha : CA cm X W ar (e :: es))
    (hg : Gl X x := by rfl) (hdb : (x == ("__debug__" : Str)) = false := by decide) (he : starEach (e :: es) X.env = (false, eval e X.env) :: starEach es X.env := by rfl) (hpl : (backTo pos (starEach es X.env)).any (·.1) = false := by rfl) :
    CF cm X W (fCall call id ar) (.Call (.Name x p) (e :: es) [] pos) := PE.weak (pe_callS F hr hg hm hk hb (passAt tk) ha hdb he hpl) fun σ H Q ⟨B, ρ, st, G, R, h⟩ =>
  ⟨B, ρ, st, G, R, Out.bindR early_F R h fun qs st1 H1 G1 xs s1 R1 rx h1 => ⟨qs, st1, G1, R1.toSRel, rx, h1⟩⟩
end
/-- own: the slots that the target stores -/
def tG (c : Cn) (own : List Nat) (g : GM) : TG := fun v σ H Q => ∃ B ρ st G p, Rel c B σ ρ H st G ∧ RepV c G v p ∧ ∃ ρ1 st1, g p ρ st = some (ρ1, st1) ∧ ∀ σ1 H1 G1, GExt G G1 → σ1.length = σ.length → (∀ j, j ∉ own → σ1[j]? = σ[j]?) → Rel c B σ1 ρ1 H1 st1 G1 → Q σ1 H1
def CG (cm : Nat → Option Addr) (X : Cx) (own : List Nat) (g : GM) (e : Expr) : Prop := PG X e (tG (cnOf X cm) own g)
theorem PG.weak {X : Cx} {e : Expr} {t t' : TG} (h : PG X e t) (w : ∀ v σ H Q, t' v σ H Q → t v σ H Q) : PG X e t' := ⟨fun pins s σ H v u Q I r q => h.run pins s σ H v u Q I r (w v σ H Q q)⟩
theorem PGs.weak {X : Cx} {e : List Expr} {t t' : TGs} (h : PGs X e t) (w : ∀ v σ H Q, t' v σ H Q → t v σ H Q) : PGs X e t' := ⟨fun pins s σ H v u Q I r q => h.run pins s σ H v u Q I r (w v σ H Q q)⟩
section
variable {cm : Nat → Option Addr} {X : Cx} {W : WX} {pos : Pos} {x : Str}
/-- a target that stores names alone -/
def tGp (c : Cn) (own : List Nat) (g : GM) : TG := fun v σ H Q => ∃ B ρ st G p, Rel c B σ ρ H st G ∧ RepV c G v p ∧ ∃ ρ1, g p ρ st = some (ρ1, st) ∧ ∀ σ1, σ1.length = σ.length → (∀ j, j ∉ own → σ1[j]? = σ[j]?) → Rel c B σ1 ρ1 H st G → Q σ1 H
def tGps (c : Cn) (own : List Nat) (gs : List GM) : TGs := fun vs σ H Q => ∃ B ρ st G ps, Rel c B σ ρ H st G ∧ RepVs c G vs ps ∧ ∃ ρ1, gEach gs ps ρ st = some (ρ1, st) ∧ ∀ σ1, σ1.length = σ.length → (∀ j, j ∉ own → σ1[j]? = σ[j]?) → Rel c B σ1 ρ1 H st G → Q σ1 H
structure CGp (cm : Nat → Option Addr) (X : Cx) (own : List Nat) (g : GM) (e : Expr) : Prop where
  pure : ∀ p ρ st z, g p ρ st = some z → z.2 = st
  run : PG X e (tGp (cnOf X cm) own g)
structure CGps (cm : Nat → Option Addr) (X : Cx) (own : List Nat) (gs : List GM) (es : List Expr) : Prop where
  pure : ∀ p ρ st z, gEach gs p ρ st = some z → z.2 = st
  run : PGs X es (tGps (cnOf X cm) own gs)
theorem cg_of {own : List Nat} {g : GM} {e : Expr} (h : CGp cm X own g e) : CG cm X own g e := PG.weak h.run fun v σ H Q ⟨B, ρ, st, G, p, R, rv, ρ1, st1, e, k⟩ => by
  have q := h.pure p ρ st _ e
  subst q
  exact ⟨B, ρ, _, G, p, R, rv, ρ1, e, fun σ1 l1 k1 R1 => k σ1 H G (.refl G) l1 k1 R1⟩
theorem cgp_name (i : Nat) (hN : X.N.Nodup) (hi : X.N[i]? = some x := by rfl) (hx : Loc X.env.scope x := by first | exact .inl rfl | exact .inr rfl) (hf : X.fn x = true ∨ X.env.scope.names.lookup x = some .local := by first | exact .inl rfl | exact .inr rfl | assumption) : CGp cm X [i] (gName i) (.Name x pos) :=
  ⟨fun p ρ st z h => by
    have h : some (ρ.set i (.val p), st) = some z := h
    cases h; rfl, PG.weak (pg_name hN hi hx hf) fun v σ H Q ⟨B, ρ, st, G, p, R, rv, ρ1, e, h⟩ => by
    have e : some (ρ.set i (.val p), st) = some (ρ1, st) := e
    cases e
    exact h _ (by simp) (fun j hj => by rw [List.getElem?_set_ne (by intro z; exact hj (by simp [z]))]) (R.setF (sv := .val p) (.refl G H) R.toSRel rv)⟩
theorem cgps_nil : CGps cm X [] [] [] := by
  refine ⟨fun p ρ st z h => ?_, PGs.weak pgs_nil fun vs σ H Q ⟨B, ρ, st, G, ps, R, rv, ρ1, e, h⟩ => ?_⟩
  · cases p with
    | nil =>
      have h : some (ρ, st) = some z := h
      cases h
      rfl
    | cons _ _ => cases h
  · cases rv with
    | nil =>
      have e : some (ρ, st) = some (ρ1, st) := e
      cases e
      exact ⟨rfl, h σ rfl (fun _ _ => rfl) R⟩
    | cons _ _ => cases e
theorem cgps_cons {o1 o2 : List Nat} {g : GM} {gs : List GM} {e : Expr} {es : List Expr} (h1 : CGp cm X o1 g e) (h2 : CGps cm X o2 gs es) (hs : (assignEach (e :: es) X.env).map (·.2) = assign e X.env :: (assignEach es X.env).map (·.2) := by rfl) : CGps cm X (o1 ++ o2) (g :: gs) (e :: es) := by
  have each : ∀ p ps ρ st z, gEach (g :: gs) (p :: ps) ρ st = some z → ∃ ρ2, g p ρ st = some (ρ2, st) ∧ gEach gs ps ρ2 st = some z ∧ z.2 = st := fun p ps ρ st z h => by
    have h : (g p ρ st).bind (fun z => gEach gs ps z.1 z.2) = some z := h
    cases e1 : g p ρ st with
    | none => rw [e1] at h; cases h
    | some y =>
      obtain ⟨ρ2, st2⟩ := y
      have q := h1.pure p ρ st _ e1
      have q : st2 = st := q
      subst q
      rw [e1] at h
      exact ⟨ρ2, rfl, h, h2.pure _ _ _ _ h⟩
  refine ⟨fun p ρ st z h => ?_, PGs.weak (pgs_cons h1.run h2.run hs) fun vs σ H Q ⟨B, ρ, st, G, ps, R, rv, ρ1, e, h⟩ => ?_⟩
  · cases p with
    | nil => cases h
    | cons p ps => exact (each p ps ρ st z h).choose_spec.2.2
  · cases rv with
    | nil => cases e
    | @cons v p vs ps r1 r2 =>
      obtain ⟨ρ2, e1, e2, _⟩ := each p ps ρ st _ e
      refine ⟨v, vs, rfl, B, ρ, st, G, p, R, r1, ρ2, e1, fun σ2 l2 k2 R2 => ⟨B, ρ2, st, G, ps, R2, r2, ρ1, e2, fun σ3 l3 k3 R3 => h σ3 (l3.trans l2) (fun j hj => ?_) R3⟩⟩
      rw [k3 j fun z => hj (List.mem_append_right _ z), k2 j fun z => hj (List.mem_append_left _ z)]
theorem gEach_len : ∀ (gs : List GM) (ps : List PV) (ρ : Env) (st : Store) (z : Env × Store), gEach gs ps ρ st = some z → gs.length = ps.length
  | [], [], _, _, _, _ => rfl
  | [], _ :: _, _, _, _, h => by cases h
  | _ :: _, [], _, _, _, h => by cases h
  | g :: gs, p :: ps, ρ, st, z, h => by
    have h : (g p ρ st).bind (fun z => gEach gs ps z.1 z.2) = some z := h
    cases e1 : g p ρ st with
    | none => rw [e1] at h; cases h
    | some y => rw [e1] at h; rw [List.length_cons, List.length_cons, gEach_len gs ps _ _ _ h]
/-- (a, b, ..) = a tuple or a list -/
def gTL (K : PySem.W.Frag) (n : Nat) (t : TGs) : TG := fun v σ H Q => ∃ a xs, v = .ref a ∧ (SqT K H a xs ∨ SqL K H a xs) ∧ xs.length = n ∧ t xs σ H Q
theorem pg_TL {es : List Expr} {k : Nat} {t : TGs} {n : Nat} (hc : X.calm = true) (h : PGs X es t)
    (hn : (assignEach es X.env).length = n) (hst : (assignEach es X.env).findIdx? (·.1) = none) : PG X (.Tuple es k pos) (gTL X.K n t) :=
  ⟨fun pins s σ H v u Q I r hw => by
    obtain ⟨a, xs, e, hq, hl, hw⟩ := hw
    rcases hq with hq | hq
    · exact (pg_tup hc h hn hst).run pins s σ H v u Q I r ⟨a, xs, e, hq, hl, hw⟩
    · exact (pg_unl hc h hn hst).run pins s σ H v u Q I r ⟨a, xs, e, hq, hl, hw⟩⟩
theorem cgp_tup {own : List Nat} {gs : List GM} {es : List Expr} {k : Nat} (hc : X.calm = true) (h : CGps cm X own gs es) (hl : gs.length = es.length := by rfl) (hn : (assignEach es X.env).length = es.length := by rfl) (hst : (assignEach es X.env).findIdx? (·.1) = none := by rfl) : CGp cm X own (gTup gs) (.Tuple es k pos) := by
  refine ⟨fun p ρ st z h' => ?_, PG.weak (pg_TL hc h.run hn hst) fun v σ H Q ⟨B, ρ, st, G, p, R, rv, ρ1, e, h⟩ => ?_⟩
  · cases p with
    | tup ps => exact h.pure ps ρ st z h'
    | wt ps => exact h.pure ps ρ st z h'
    | lst ps => exact h.pure ps ρ st z h'
    | _ => cases h'
  · cases rv with
    | @tup a vs ps ha ra =>
      have e : gEach gs ps ρ st = some (ρ1, st) := e
      exact ⟨a, vs, rfl, .inl (R.sqT ha), by rw [ra.len, ← gEach_len _ _ _ _ _ e, hl], B, ρ, st, G, ps, R, ra, ρ1, e, h⟩
    | @wt a vs ps ha ra =>
      have e : gEach gs ps ρ st = some (ρ1, st) := e
      exact ⟨a, vs, rfl, .inl (R.sqW ha), by rw [ra.len, ← gEach_len _ _ _ _ _ e, hl], B, ρ, st, G, ps, R, ra, ρ1, e, h⟩
    | @lst a vs ps ha ra =>
      have e : gEach gs ps ρ st = some (ρ1, st) := e
      exact ⟨a, vs, rfl, .inr (R.sqL (.inl (.inl ha))), by rw [ra.len, ← gEach_len _ _ _ _ _ e, hl], B, ρ, st, G, ps, R, ra, ρ1, e, h⟩
    | _ => cases e
/-- target = value, any target -/
theorem cs_asg {own : List Nat} {tg e : Expr} {m : EM} {g : GM} (he : CE cm X W m e) (hg : CG cm X own g tg) (hs : swapsWithSole [tg] e pos.line X.env = pure false := by rfl) (hw : swappedStores [tg] e X.env = pure none := by rfl)
    (h1 : (assignEach [tg] X.env).map (·.2) = [assign tg X.env] := by rfl) : CS cm X W (sAsg m g) (.Assign [tg] e pos) := PS.weak (ps_asg he hg hs hw h1) fun D σ H ⟨B, ρ, st, G, R, h⟩ =>
  ⟨B, ρ, st, G, R, OutS.bind R h fun p st1 H1 G1 x s1 R1 rx h1 => by
    cases eg : g p ρ st1 with
    | none => rw [eg] at h1; exact h1.elim
    | some z =>
      obtain ⟨ρ2, st2⟩ := z
      rw [eg] at h1
      exact ⟨B, ρ, st1, G1, p, R1, rx, ρ2, st2, eg, fun σ2 H2 G2 x2 _ _ R2 => h1 σ2 H2 G2 x2 R2⟩⟩
/-- what is walked yields these items -/
def Walks (c : Cn) (J : It) (xs : List PV) (G1 : Gh) : Prop := ∀ (i : Nat) (H : Hp) (G : Gh) (st : Store), GExt G1 G → SRel c H st G → (∀ p, xs[i]? = some p → J.go i H ∧ ∀ x H', J.yld i H x H' → ∃ G', Stp G H G' H' ∧ SRel c H' st G' ∧ RepV c G' x p) ∧ (xs.length = i → J.stop i H)
def tI (c : Cn) (W : WX) (m : AM) : TI := fun σ H R => ∃ B ρ st G, Rel c B σ ρ H st G ∧ Out c (fun _ G' _ (J : It) xs => Walks c J xs G') G H R (fun cls d H' => W cls d σ H') (m ρ st)
def CI (cm : Nat → Option Addr) (X : Cx) (W : WX) (m : AM) (tg iter : Expr) : Prop := PI X tg iter (tI (cnOf X cm) W m)
theorem PI.weak {X : Cx} {tg e : Expr} {t t' : TI} (h : PI X tg e t) (w : ∀ σ H Q, t' σ H Q → t σ H Q) : PI X tg e t' := ⟨fun pins s σ H Q I q => h.run pins s σ H Q I (w σ H Q q)⟩
variable {tg it : Expr} {m : EM}
theorem walks_list {c : Cn} {G : Gh} {a : Addr} {vs : List V} {ps : List PV} (ha : G.fz a = some (.lst vs)) (ra : RepVs c G vs ps) : Walks c (Itl c.K a) ps G := fun i H G2 st x2 S2 => by
  have hs : SqL c.K H a vs := SqL.of (S2.fzH _ _ (x2.fz _ _ ha))
  refine ⟨fun p hp => ?_, fun hi => ⟨vs, hs, by rw [ra.len]; exact Nat.le_of_eq hi⟩⟩
  obtain ⟨v, hv, r⟩ := ra.get hp
  refine ⟨⟨vs, v, hs, hv⟩, fun x H' y => ?_⟩
  obtain ⟨rfl, y⟩ := y
  have := y vs hs
  rw [hv] at this
  cases this
  exact ⟨G2, .refl _ _, S2, r.up x2⟩
theorem walks_tup {c : Cn} {G : Gh} {a : Addr} {vs : List V} {ps : List PV} (ha : TupN G.fz a vs) (ra : RepVs c G vs ps) : Walks c (Itt c.K a) ps G := fun i H G2 st x2 S2 => by
  have hs : SqT c.K H a vs := S2.sqT (ha.up x2.fz)
  refine ⟨fun p hp => ?_, fun hi => ⟨vs, hs, by rw [ra.len]; exact Nat.le_of_eq hi⟩⟩
  obtain ⟨v, hv, r⟩ := ra.get hp
  refine ⟨⟨vs, v, hs, hv⟩, fun x H' y => ?_⟩
  obtain ⟨rfl, y⟩ := y
  have := y vs hs
  rw [hv] at this
  cases this
  exact ⟨G2, .refl _ _, S2, r.up x2⟩
def lstOf : PV → Option (List PV)
  | .lst xs => some xs
  | _ => none
def tupOf : PV → Option (List PV)
  | .tup xs => some xs
  | _ => none
def wLst (m : EM) : AM := fun ρ st => (m ρ st).bind fun p st1 => R.ofOpt (lstOf p) st1
def wTup (m : EM) : AM := fun ρ st => (m ρ st).bind fun p st1 => R.ofOpt (tupOf p) st1
def early_I {c : Cn} : Early (fun _ G' _ (J : It) xs => Walks c J xs G') := fun _ _ _ _ _ _ _ h => h
theorem ci_lst (h : CE cm X W m it) : CI cm X W (wLst m) tg it := PI.weak (pi_list h) fun σ H R ⟨B, ρ, st, G, Rl, h⟩ =>
  ⟨B, ρ, st, G, Rl, Out.bindR early_I Rl h fun p st1 H1 G1 x s1 R1 rx h1 => by
    cases rx with
    | @lst a vs ps ha ra => exact ⟨a, rfl, ⟨vs, SqL.of (R1.lst ha)⟩, h1 H1 G1 _ (.refl G1 H1) R1.toSRel (walks_list ha ra)⟩
    | _ => exact h1.elim⟩
theorem ci_tup (h : CE cm X W m it) : CI cm X W (wTup m) tg it := PI.weak (pi_tup h) fun σ H R ⟨B, ρ, st, G, Rl, h⟩ =>
  ⟨B, ρ, st, G, Rl, Out.bindR early_I Rl h fun p st1 H1 G1 x s1 R1 rx h1 => by
    cases rx with
    | @tup a vs ps ha ra => exact ⟨a, rfl, ⟨vs, R1.sqT ha⟩, h1 H1 G1 _ (.refl G1 H1) R1.toSRel (walks_tup ha ra)⟩
    | _ => exact h1.elim⟩
theorem upInts_get (lo : Int) : ∀ (n i : Nat) (p : PV), (upInts lo n)[i]? = some p → i < n ∧ p = .int (lo + i)
  | 0, i, p, h => by cases h
  | n + 1, 0, p, h => by
    have h : some (PV.int lo) = some p := h
    cases h
    exact ⟨Nat.zero_lt_succ _, by simp⟩
  | n + 1, i + 1, p, h => by
    obtain ⟨h1, h2⟩ := upInts_get (lo + 1) n i p h
    exact ⟨Nat.succ_lt_succ h1, by rw [h2]; congr 1; omega⟩
theorem upInts_len (lo : Int) : ∀ n : Nat, (upInts lo n).length = n
  | 0 => rfl
  | n + 1 => by rw [upInts, List.length_cons, upInts_len]
theorem walks_rng {c : Cn} {G : Gh} {lo : Int} {n : Nat} : Walks c (Itr lo n) (upInts lo n) G := fun i H G2 st x2 S2 => by
  refine ⟨fun p hp => ?_, fun hi => by rw [upInts_len] at hi; exact Nat.le_of_eq hi⟩
  obtain ⟨h1, rfl⟩ := upInts_get lo n i p hp
  exact ⟨h1, fun x H' ⟨e1, e2⟩ => by subst e1 e2; exact ⟨G2, .refl _ _, S2, .int⟩⟩
theorem ci_rng1 {p : Pos} (hm : X.mg "range" = none) (h : CE cm X W m it) (hg : Gl X "range" := by rfl) (hs : starEach [it] X.env = [(false, eval it X.env)] := by rfl) (hs0 : starEach [it] X.env = (false, eval it X.env) :: starEach [] X.env := by rfl) : CI cm X W (wRng1 m) tg (.Call (.Name "range" p) [it] [] pos) :=
  PI.weak (pi_range1 hg hm (pa_cons h pa_nil hs0) hs) fun σ H R ⟨B, ρ, st, G, Rl, h⟩ =>
  ⟨B, ρ, st, G, Rl, Out.bindR early_I Rl h fun p st1 H1 G1 x s1 R1 rx h1 => by
    cases rx with
    | @int j =>
      have h1 : Out _ _ _ _ _ _ (BR.R.ofOpt (if big62 j then some (upInts 0 j.toNat) else none) st1) := h1
      by_cases hb : big62 j = true
      · rw [if_pos hb] at h1
        have hb' := of_decide_eq_true hb
        exact ⟨j, rfl, hb'.1, hb'.2, h1 H1 G1 _ (.refl G1 H1) R1.toSRel walks_rng⟩
      · rw [if_neg hb] at h1
        exact h1.elim
    | _ => exact h1.elim⟩
theorem ci_rng2 {p : Pos} {it2 : Expr} {m2 : EM} (hm : X.mg "range" = none) (h : CE cm X W m it) (h2 : CE cm X W m2 it2) (hg : Gl X "range" := by rfl) (hs : starEach [it, it2] X.env = [(false, eval it X.env), (false, eval it2 X.env)] := by rfl) (hs2 : starEach [it2] X.env = [(false, eval it2 X.env)] := by rfl)
    (hs0 : starEach [it, it2] X.env = (false, eval it X.env) :: starEach [it2] X.env := by rfl) (hs1 : starEach [it2] X.env = (false, eval it2 X.env) :: starEach [] X.env := by rfl) : CI cm X W (wRng2 m m2) tg (.Call (.Name "range" p) [it, it2] [] pos) :=
  PI.weak (pi_rangeA hg hm (pa_cons h (pa_cons h2 pa_nil hs1) hs0) hs hs2) fun σ H R ⟨B, ρ, st, G, Rl, h⟩ =>
  ⟨B, ρ, st, G, Rl, Out.bindR early_I Rl h fun p st1 H1 G1 x s1 R1 rx h1 =>
    ⟨B, ρ, st1, G1, R1, Out.bindR early_I R1 h1 fun q st2 H2 G2 y s2 R2 ry h2 => by
    cases rx with
    | @int i =>
      cases ry with
      | @int j =>
        have h2 : Out _ _ _ _ _ _ (BR.R.ofOpt (some (upInts i (j - i).toNat)) st2) := h2
        exact ⟨i, j, rfl, h2 H2 G2 _ (.refl G2 H2) R2.toSRel walks_rng⟩
      | _ => exact h2.elim
    | _ => cases ry <;> exact h2.elim⟩⟩
theorem cs_for {own : List Nat} {w : AM} {g : GM} {n : SM} {body : List Stmt} (hp : PassesOwn (model X.prog X.w) X.A X.env X.xe) (hc : X.calm = true) (hi : CI cm X W w tg it) (hg : CG cm X own g tg) (hb : CSs cm X W n body) (hs : ∀ x, foldedSetIterable it X.env x = pure x := by intro _; rfl) :
    CS cm X W (sFor w g n) (.For tg it body [] pos) := PS.weak (ps_for hp hc hi hg hb hs) fun D σ H ⟨B, ρ, st, G, R, h⟩ => by
  refine ⟨B, ρ, st, G, R, OutS.bind R h fun xs st1 H1 G1 J s1 R1 wk h1 => ?_⟩
  refine ⟨fun i k σ' H' => k = xs.length - i ∧ i ≤ xs.length ∧ ∃ ρ' st' G', GExt G1 G' ∧ Rel (cnOf X cm) B σ' ρ' H' st' G' ∧ OutS (cnOf X cm) W B D G' (forGo g n (xs.drop i) ρ' st'), ⟨_, rfl, Nat.zero_le _, ρ, st1, G1, .refl G1, R1, h1⟩, ?_⟩
  rintro i k σ2 H2 ⟨rfl, hi, ρ2, st2, G2, x2, R2, h2⟩
  obtain ⟨wgo, wstop⟩ := wk i H2 G2 st2 x2 R2.toSRel
  by_cases hlt : i < xs.length
  · refine .inr ?_
    have hx : xs[i]? = some xs[i] := List.getElem?_eq_getElem hlt
    obtain ⟨go, y⟩ := wgo _ hx
    refine ⟨go, fun σ3 H3 => ∃ ρ3 st3 G3, GExt G1 G3 ∧ Rel (cnOf X cm) B σ3 ρ3 H3 st3 G3 ∧ OutS (cnOf X cm) W B D G3 (forGo g n (xs.drop (i + 1)) ρ3 st3), fun σ3 H3 ⟨ρ3, st3, G3, x3, R3, h3⟩ => ⟨_, by omega, rfl, hlt, ρ3, st3, G3, x3, R3, h3⟩, fun v H3 hy => ?_⟩
    obtain ⟨G3, s3, S3, r3⟩ := y v H3 hy
    have R3 := R2.step s3 S3
    rw [List.drop_eq_getElem_cons hlt] at h2
    unfold forGo at h2
    cases eg : g xs[i] ρ2 st2 with
    | none => rw [eg] at h2; exact h2.elim
    | some z =>
      obtain ⟨ρ4, st4⟩ := z
      rw [eg] at h2
      refine ⟨B, ρ2, st2, G3, xs[i], R3, r3, ρ4, st4, eg, fun σ4 H4 G4 x4 _ _ R4 => ⟨B, ρ4, st4, G4, R4, ?_⟩⟩
      have x24 := s3.toGExt.trans x4
      simp only at h2
      cases eb : n ρ4 st4 with
      | next ρ5 st5 => rw [eb] at h2; exact fun σ5 H5 G5 x5 R5 => ⟨ρ5, st5, G5, (x2.trans x24).trans x5, R5, OutS.later (x24.trans x5) h2⟩
      | cnt ρ5 st5 => rw [eb] at h2; exact fun σ5 H5 G5 x5 R5 => ⟨ρ5, st5, G5, (x2.trans x24).trans x5, R5, OutS.later (x24.trans x5) h2⟩
      | brk ρ5 st5 => rw [eb] at h2; exact fun σ5 H5 G5 x5 R5 => h2 σ5 H5 G5 (x24.trans x5) R5
      | ret v st5 => rw [eb] at h2; exact OutS.later (r := .ret v st5) x24 h2
      | ex a b d e f => rw [eb] at h2; exact OutS.later (r := .ex a b d e f) x24 h2
      | bad => rw [eb] at h2; exact h2
  · refine .inl ?_
    have e : i = xs.length := by omega
    subst e
    rw [List.drop_length] at h2
    exact ⟨wstop rfl, h2 σ2 H2 G2 (.refl G2) R2⟩
theorem cs_while {t : BM} {n : SM} {e : Expr} {body : List Stmt} (hp : PassesOwn (model X.prog X.w) X.A X.env X.xe) (hc : CT cm X W t e) (hb : CSs cm X W n body) : CS cm X W (sWhile t n) (.While e body [] pos) := PS.weak (ps_while hp hc hb) fun D σ H ⟨B, ρ, st, G, R, h⟩ => by
  refine ⟨fun k σ' H' => ∃ ρ' st' G', GExt G G' ∧ Rel (cnOf X cm) B σ' ρ' H' st' G' ∧ OutS (cnOf X cm) W B D G' (whileGo t n k ρ' st'), ⟨fuel, ρ, st, G, .refl G, R, h⟩, ?_⟩
  rintro k σ2 H2 ⟨ρ2, st2, G2, x2, R2, h2⟩
  cases k with
  | zero => exact h2.elim
  | succ k =>
    refine ⟨B, ρ2, st2, G2, R2, OutS.bind R2 h2 fun b st3 H3 G3 x s3 R3 rx h3 => ?_⟩
    subst rx
    cases x with
    | false =>
      rw [if_neg Bool.false_ne_true]
      exact h3 σ2 H3 G3 (.refl G3) R3
    | true =>
      rw [if_pos rfl]
      simp only [if_true] at h3
      refine ⟨fun σ4 H4 => ∃ ρ' st' G', GExt G G' ∧ Rel (cnOf X cm) B σ4 ρ' H4 st' G' ∧ OutS (cnOf X cm) W B D G' (whileGo t n k ρ' st'), fun σ4 H4 q => ⟨k, Nat.lt_succ_self k, q⟩, B, ρ2, st3, G3, R3, ?_⟩
      have x3 := x2.trans s3.toGExt
      cases eb : n ρ2 st3 with
      | next ρ5 st5 => rw [eb] at h3; exact fun σ5 H5 G5 x5 R5 => ⟨ρ5, st5, G5, x3.trans x5, R5, OutS.later x5 h3⟩
      | cnt ρ5 st5 => rw [eb] at h3; exact fun σ5 H5 G5 x5 R5 => ⟨ρ5, st5, G5, x3.trans x5, R5, OutS.later x5 h3⟩
      | brk ρ5 st5 => rw [eb] at h3; exact h3
      | ret v st5 => rw [eb] at h3; exact h3
      | ex a b d e f => rw [eb] at h3; exact h3
      | bad => rw [eb] at h3; exact h3
end
end BR
set_option Elab.async false
set_option linter.all false
set_option maxRecDepth 100000
namespace BR
open PySem PySem.Spec PyProof.Rows L2
section
variable {c : Cn} {B : Bs} {σ : L2.St} {ρ : Env} {H H1 : Hp} {st st1 : Store} {G G1 : Gh} {W : WX}
/-- an object that is not told is changed -/
theorem SRel.updOut {D : Addr} {o' : HO} (S : SRel c H st G) (n1 : G.fz D = none) (n2 : D ∉ G.io) : SRel c (upd H D o') st G := by
  refine ⟨fun a u h => by rw [upd_ne (ne_of_none h n1)]; exact S.fzH a u h, S.nd, S.iofz, S.len, fun i a u h1 h2 => ?_⟩
  have hap : a ≠ D := fun e => n2 (e ▸ List.mem_of_getElem? h1)
  have q := S.obj i a u h1 h2
  cases u with
  | lst ps =>
    obtain ⟨vs, z, r⟩ := q
    exact ⟨vs, by rw [upd_ne hap]; exact z, r⟩
  | ins cl ns ps =>
    obtain ⟨C, dx, fvs, z, hc, hn, r⟩ := q
    exact ⟨C, dx, fvs, by rw [upd_ne hap]; exact z, hc, hn, r⟩
theorem Stp.updOut {D : Addr} {o' : HO} (s : Stp G1 H1 G H) (n : H1 D = none) : Stp G1 H1 G (upd H D o') :=
  ⟨s.toGExt, fun a o h k => by rw [upd_ne (ne_of_none h n)]; exact s.keep a o h k, fun a o h => by rw [upd_ne (ne_of_none h n)]; exact s.live a o h, s.nfz, s.nio⟩
theorem wipe_get : ∀ (vs : List Nat) (σ : L2.St) (j : Nat), (wipe σ vs)[j]? = if j ∈ vs ∧ j < σ.length then some none else σ[j]?
  | [], σ, j => by simp [wipe]
  | v :: vs, σ, j => by
    unfold wipe
    by_cases e : v = j
    · subst e
      by_cases hl : v < σ.length
      · rw [List.getElem?_set_self (by rw [wipe_length]; exact hl), if_pos ⟨List.mem_cons_self, hl⟩]
      · rw [List.getElem?_eq_none (by rw [List.length_set, wipe_length]; omega), if_neg (fun z => hl z.2), List.getElem?_eq_none (by omega)]
    · rw [List.getElem?_set_ne e, wipe_get vs σ j]
      have : (j ∈ v :: vs) ↔ j ∈ vs := by simp [Ne.symm (a := v) (b := j) e]
      simp only [this]
theorem wipeE_len (ρ : Env) : ∀ vs : List Nat, (wipeE ρ vs).length = ρ.length
  | [] => rfl
  | v :: vs => by unfold wipeE; rw [List.length_set, wipeE_len]
theorem wipeE_get : ∀ (vs : List Nat) (ρ : Env) (j : Nat), (wipeE ρ vs)[j]? = if j ∈ vs ∧ j < ρ.length then some .un else ρ[j]?
  | [], ρ, j => by simp [wipeE]
  | v :: vs, ρ, j => by
    unfold wipeE
    by_cases e : v = j
    · subst e
      by_cases hl : v < ρ.length
      · rw [List.getElem?_set_self (by rw [wipeE_len]; exact hl), if_pos ⟨List.mem_cons_self, hl⟩]
      · rw [List.getElem?_eq_none (by rw [List.length_set, wipeE_len]; omega), if_neg (fun z => hl z.2), List.getElem?_eq_none (by omega)]
    · rw [List.getElem?_set_ne e, wipeE_get vs ρ j]
      have : (j ∈ v :: vs) ↔ j ∈ vs := by simp [Ne.symm (a := v) (b := j) e]
      simp only [this]
theorem Rel.wipe (R : Rel c B σ ρ H st G) (vs : List Nat) : Rel c B (wipe σ vs) (wipeE ρ vs) H st G := by
  refine ⟨R.toSRel, R.base, by rw [wipeE_len, wipe_length, R.len2], fun i sv x h1 h2 => ?_, fun i j sv sw a h1 h2 h3 h4 h5 h6 => ?_⟩
  · rw [wipeE_get] at h1
    by_cases e : i ∈ vs ∧ i < ρ.length
    · rw [if_pos e] at h1
      cases h1
      trivial
    · rw [if_neg e] at h1
      rw [wipe_get, if_neg (by rw [← R.len2]; exact e)] at h2
      exact R.slot i sv x h1 h2
  · rw [wipeE_get] at h1 h2
    by_cases e : i ∈ vs ∧ i < ρ.length
    · rw [if_pos e] at h1
      cases h1
      cases h3
    · by_cases e2 : j ∈ vs ∧ j < ρ.length
      · rw [if_pos e2] at h2
        cases h2
        cases h4
      · rw [if_neg e] at h1
        rw [if_neg e2] at h2
        rw [wipe_get, if_neg (by rw [← R.len2]; exact e)] at h5
        rw [wipe_get, if_neg (by rw [← R.len2]; exact e2)] at h6
        exact R.dist i j sv sw a h1 h2 h3 h4 h5 h6
theorem wipe_eq {σ σ1 : L2.St} {own vs : List Nat} (hs : ∀ j ∈ own, j ∈ vs) (hl : σ1.length = (L2.wipe σ vs).length) (hk : ∀ j, j ∉ own → σ1[j]? = (L2.wipe σ vs)[j]?) : L2.wipe σ1 vs = L2.wipe σ vs := by
  refine List.ext_getElem? fun j => ?_
  rw [wipe_length] at hl
  rw [wipe_get, wipe_get, hl]
  by_cases e : j ∈ vs ∧ j < σ.length
  · rw [if_pos e, if_pos e]
  · rw [if_neg e, if_neg e]
    by_cases ej : j ∈ vs
    · have : ¬ j < σ.length := fun z => e ⟨ej, z⟩
      rw [List.getElem?_eq_none (by omega), List.getElem?_eq_none (by omega)]
    · rw [hk j fun z => ej (hs j z), wipe_get, if_neg e]
end
abbrev W0 : WX := fun _ _ _ _ => False
section
variable {cm : Nat → Option Addr} {X : Cx} {W : WX} {pos : Pos}
/-- a clause's tests -/
def CTs (cm : Nat → Option Addr) (X : Cx) (t : BM) (ifs : List Expr) : Prop := PTs X ifs (tT (cnOf X cm) W0 t)
theorem PTs.weak {X : Cx} {e : List Expr} {t t' : TT} (h : PTs X e t) (w : ∀ σ H Q, t' σ H Q → t σ H Q) : PTs X e t' := ⟨fun pins s σ H Q I q => h.run pins s σ H Q I (w σ H Q q)⟩
theorem cts_nil : CTs cm X tYes [] := PTs.weak pts_nil fun σ H Q ⟨B, ρ, st, G, R, h⟩ => h H G true (.refl G H) R.toSRel rfl
theorem cts_one {t : BM} {e : Expr} (h : CT cm X W0 t e) : CTs cm X t [e] := pts_one h
theorem w_lc {own : List (Str × Nat)} {w : AM} {g : GM} {ol : List Nat} {t : BM} {e : EM} (ho : ∀ j ∈ ol, j ∈ own.map (·.2)) (gp : ∀ p ρ st z, g p ρ st = some z → z.2 = st) {σ : L2.St} {H : Hp} {Q : VK} (h0 : tF (cnOf X cm) W (fLc w (own.map (·.2)) g t e) σ H Q) :
    tLc (tI (cnOf X cm) W w) (tGp (cnOf X cm) ol g) (tT (cnOf X cm) W0 t) (tE (cnOf X cm) W0 e) (own.map (·.2)) σ H Q := by
  obtain ⟨B, ρ, st, G, R, h⟩ := h0
  refine ⟨B, ρ, st, G, R, Out.bindR early_F R h fun xs st1 H1 G1 J s1 R1 wk h1 => fun D hD => ?_⟩
  refine ⟨fun i k H' => k = xs.length - i ∧ i ≤ xs.length ∧ ∃ accP acc st' G', Stp G1 H1 G' H' ∧ SRel (cnOf X cm) H' st' G' ∧ H' D = some (.lst acc) ∧ RepVs (cnOf X cm) G' acc accP ∧ G'.fz D = none ∧ D ∉ G'.io ∧
      Out (cnOf X cm) (rpF (cnOf X cm)) G1 H1 Q (fun cls d H' => W cls d σ H') ((lcGo g t e (wipeE ρ (own.map (·.2))) (xs.drop i) accP st').bind fun ys st2 => .ok (.own ys) st2),
    ⟨_, rfl, Nat.zero_le _, [], [], st1, G1, (Stp.refl G1 H1).updOut hD, R1.toSRel.updOut (R1.toSRel.notFz hD) (R1.toSRel.notIo hD), upd_same, .nil, R1.toSRel.notFz hD, R1.toSRel.notIo hD, h1⟩, ?_⟩
  rintro i k H2 ⟨rfl, hi, accP, acc, st2, G2, s2, S2, hD2, ra, n1, n2, h2⟩
  obtain ⟨wgo, wstop⟩ := wk i H2 G2 st2 s2.toGExt S2
  by_cases hlt : i < xs.length
  · refine .inr ?_
    have hx : xs[i]? = some xs[i] := List.getElem?_eq_getElem hlt
    obtain ⟨go, y⟩ := wgo _ hx
    rw [List.drop_eq_getElem_cons hlt] at h2
    refine ⟨go, fun H' => ∃ accP acc st' G', Stp G1 H1 G' H' ∧ SRel (cnOf X cm) H' st' G' ∧ H' D = some (.lst acc) ∧ RepVs (cnOf X cm) G' acc accP ∧ G'.fz D = none ∧ D ∉ G'.io ∧
      Out (cnOf X cm) (rpF (cnOf X cm)) G1 H1 Q (fun cls d H' => W cls d σ H') ((lcGo g t e (wipeE ρ (own.map (·.2))) (xs.drop (i + 1)) accP st').bind fun ys st2 => .ok (.own ys) st2), fun H' q => ⟨_, by omega, rfl, hlt, q⟩, fun v H3 hy => ?_⟩
    obtain ⟨G3, s3, S3, r3⟩ := y v H3 hy
    have s13 := s2.trans s3
    have R3 := (R1.step s13 S3).wipe (own.map (·.2))
    unfold lcGo at h2
    cases eg : g xs[i] (wipeE ρ (own.map (·.2))) st2 with
    | none => rw [eg] at h2; exact h2.elim
    | some z =>
      obtain ⟨ρ4, st4⟩ := z
      have est : st4 = st2 := gp xs[i] _ st2 _ eg
      subst est
      rw [eg] at h2
      simp only at h2
      refine ⟨B, _, _, G3, xs[i], R3, r3, ρ4, eg, fun σ4 l4 k4 R4 => ⟨wipe_eq ho l4 k4, ?_⟩⟩
      refine ⟨B, ρ4, st4, G3, R4, ?_⟩
      cases et : t ρ4 st4 with
      | bad => rw [et] at h2; exact h2
      | ex _ _ _ _ => rw [et] at h2; exact h2.elim
      | ok kk st5 =>
        rw [et] at h2
        intro H5 G5 b s5 S5 eb
        subst eb
        have s15 := s13.trans s5
        have hD5 : H5 D = some (.lst acc) := s5.keep _ _ (s3.keep _ _ hD2 n2) (s3.nio _ _ hD2 n2)
        have hD3 := s3.keep _ _ hD2 n2
        have n1' : G5.fz D = none := s5.nfz _ _ hD3 (s3.nfz _ _ hD2 n1)
        have n2' : D ∉ G5.io := s5.nio _ _ hD3 (s3.nio _ _ hD2 n2)
        have ra5 := (ra.up s3.toGExt).up s5.toGExt
        cases b with
        | false =>
          rw [if_neg Bool.false_ne_true]
          exact ⟨accP, acc, st5, G5, s15, S5, hD5, ra5, n1', n2', h2⟩
        | true =>
          rw [if_pos rfl]
          refine ⟨B, ρ4, st5, G5, R4.step s5 S5, ?_⟩
          have h2 : Out (cnOf X cm) (rpF (cnOf X cm)) G1 H1 Q (fun cls d H' => W cls d σ H') (((e ρ4 st5).noex.bind fun p st3 => (if accP.length < lim then lcGo g t e (wipeE ρ (own.map (·.2))) (xs.drop (i + 1)) (accP ++ [p]) st3 else .bad)).bind fun ys st2 => .ok (.own ys) st2) := h2
          cases ee : e ρ4 st5 with
          | bad => rw [ee] at h2; exact h2
          | ex _ _ _ _ => rw [ee] at h2; exact h2.elim
          | ok p st6 =>
            rw [ee] at h2
            intro H6 G6 v6 s6 S6 r6
            have hD6 := s6.keep _ _ hD5 n2'
            have n16 := s6.nfz _ _ hD5 n1'
            have n26 := s6.nio _ _ hD5 n2'
            have h2 : Out (cnOf X cm) (rpF (cnOf X cm)) G1 H1 Q (fun cls d H' => W cls d σ H') ((if accP.length < lim then lcGo g t e (wipeE ρ (own.map (·.2))) (xs.drop (i + 1)) (accP ++ [p]) st6 else .bad).bind fun ys st2 => .ok (.own ys) st2) := h2
            by_cases hl : accP.length < lim
            · rw [if_pos hl] at h2
              refine ⟨acc, hD6, by rw [ra5.len]; exact Nat.lt_of_lt_of_le hl (by decide), accP ++ [p], acc ++ [v6], st6, G6, (s15.trans s6).updOut hD, S6.updOut n16 n26, upd_same, (ra5.up s6.toGExt).app (.cons r6 .nil), n16, n26, h2⟩
            · rw [if_neg hl] at h2
              exact h2.elim
  · refine .inl ?_
    have e : i = xs.length := by omega
    subst e
    rw [List.drop_length] at h2
    exact ⟨wstop rfl, h2 H2 G2 (.ref D) s2 S2 ⟨D, acc, rfl, hD2, ra, n1, n2, hD⟩⟩
theorem cf_lc {elt tg iter : Expr} {ifs : List Expr} {scope : Scope} {own : List (Str × Nat)} {w : AM} {g : GM} {ol : List Nat} {t : BM} {e : EM} (hc : X.calm = true) (hN : X.N.Nodup) (hi : CI cm X W w tg iter) (ok : BlkOk X.N X.env.scope scope own) (ho : ∀ j ∈ ol, j ∈ own.map (·.2))
    (hg : ∀ (s : Shared) (H : Hp) (C : Addr) (cl : List (Str × Addr)) (fp : List Addr), CGp cm (X.blk s H scope (compEnvC scope cl C X.env) fp) ol g tg)
    (ht : ∀ (s : Shared) (H : Hp) (C : Addr) (cl : List (Str × Addr)) (fp : List Addr), CTs cm (X.blk s H scope (compEnvC scope cl C X.env) fp) t ifs)
    (he : ∀ (s : Shared) (H : Hp) (C : Addr) (cl : List (Str × Addr)) (fp : List Addr), CE cm (X.blk s H scope (compEnvC scope cl C X.env) fp) W0 e elt) (hs : ∀ x, foldedSetIterable iter X.env x = pure x := by intro _; rfl) :
    CF cm X W (fLc w (own.map (·.2)) g t e) (.ListComp elt [⟨tg, iter, ifs, 0⟩] scope pos) := PE.weak (pe_lc (g := tGp (cnOf X cm) ol g) (tt := tT (cnOf X cm) W0 t) (te := tE (cnOf X cm) W0 e) hc hN hi ok (fun s H C cl fp => (hg s H C cl fp).run) ht he hs) fun σ H Q h => w_lc ho (hg X.s_0 H X.env.locals [] []).pure h
/-- name = [..] on one line, the name a local -/
theorem cs_setLc (i : Nat) {y : Str} {py spos : Pos} {f : FM} {elt tg iter : Expr} {ifs : List Expr} {scope : Scope} {own : List (Str × Nat)} {w : AM} {g : GM} {ol : List Nat} {t : BM} {e : EM} (hc : X.calm = true) (hN : X.N.Nodup) (hi : CI cm X W w tg iter) (ok : BlkOk X.N X.env.scope scope own) (ho : ∀ j ∈ ol, j ∈ own.map (·.2))
    (hg : ∀ (s : Shared) (H : Hp) (C : Addr) (cl : List (Str × Addr)) (fp : List Addr), CGp cm (X.blk s H scope (compEnvC scope cl C X.env) fp) ol g tg)
    (ht : ∀ (s : Shared) (H : Hp) (C : Addr) (cl : List (Str × Addr)) (fp : List Addr), CTs cm (X.blk s H scope (compEnvC scope cl C X.env) fp) t ifs)
    (he : ∀ (s : Shared) (H : Hp) (C : Addr) (cl : List (Str × Addr)) (fp : List Addr), CE cm (X.blk s H scope (compEnvC scope cl C X.env) fp) W0 e elt) (hs : ∀ x, foldedSetIterable iter X.env x = pure x := by intro _; rfl)
    (hw : ∀ σ H Q, tF (cnOf X cm) W f σ H Q → tF (cnOf X cm) W (fLc w (own.map (·.2)) g t e) σ H Q) (hy : X.N[i]? = some y := by rfl) (hyl : X.env.scope.names.lookup y = some .local := by rfl) (hsw : swapsWith (.ListComp elt [⟨tg, iter, ifs, 0⟩] scope pos) (some (.Name y py)) spos.line X.env = pure true := by rfl) :
    CS cm X W (sSet i f) (.Assign [.Name y py] (.ListComp elt [⟨tg, iter, ifs, 0⟩] scope pos) spos) :=
  PS.weak (ps_setLc (g := tGp (cnOf X cm) ol g) (tt := tT (cnOf X cm) W0 t) (te := tE (cnOf X cm) W0 e) hc hN hy hyl hsw hi ok (fun s H C cl fp => (hg s H C cl fp).run) ht he hs) fun D σ H h => w_lc ho (hg X.s_0 H X.env.locals [] []).pure (hw _ _ _ (w_set h))
end
section
variable {c : Cn} {B : Bs} {σ : L2.St} {ρ : Env} {H : Hp} {st : Store} {G : Gh}
theorem Rel.ownAt {i : Nat} {ps : List PV} (R : Rel c B σ ρ H st G) (h : ρ[i]? = some (.own ps)) : ∃ a vs, σ[i]? = some (some (.ref a)) ∧ H a = some (.lst vs) ∧ RepVs c G vs ps ∧ G.fz a = none ∧ a ∉ G.io ∧ B.H a = none := by
  have hi : i < σ.length := by rw [← R.len2]; exact (List.getElem?_eq_some_iff.mp h).1
  obtain ⟨a, vs, hv, q⟩ := R.slot i _ σ[i] h (List.getElem?_eq_getElem hi)
  exact ⟨a, vs, by rw [List.getElem?_eq_getElem hi, hv], q⟩
theorem Rel.setOwn {i : Nat} {a : Addr} {ps ps' : List PV} {vs vs' : List V} (R : Rel c B σ ρ H st G) (h : ρ[i]? = some (.own ps)) (hσ : σ[i]? = some (some (.ref a))) (ha : H a = some (.lst vs)) (n1 : G.fz a = none) (n2 : a ∉ G.io) (n3 : B.H a = none) (r : RepVs c G vs' ps') :
    Rel c B σ (ρ.set i (.own ps')) (upd H a (.lst vs')) st G := by
  refine ⟨R.toSRel.updOut n1 n2, R.base.updOut n3, by simp [R.len2], fun j sw y h1 h2 => ?_, fun j l sw sx b h1 h2 h3 h4 h5 h6 => ?_⟩
  · rcases getq_set h1 with ⟨ej, _, e1⟩ | ⟨ne, g1⟩
    · subst ej
      rw [hσ] at h2
      cases h2
      rw [e1]
      exact ⟨a, vs', rfl, upd_same, r, n1, n2, n3⟩
    · have q := R.slot j sw y g1 h2
      cases sw with
      | un => trivial
      | val p => exact q
      | own qs =>
        obtain ⟨b, ws, e1, e2, q⟩ := q
        exact ⟨b, ws, e1, by rw [upd_ne (show b ≠ a from fun z => ne (R.dist j i _ _ a g1 h rfl rfl (by rw [h2, e1, z]) hσ))]; exact e2, q⟩
      | ins cl ns qs =>
        obtain ⟨b, C, dx, fvs, e1, es, e2, q⟩ := q
        exact ⟨b, C, dx, fvs, e1, es, by rw [upd_ne (show b ≠ a from fun z => ne (R.dist j i _ _ a g1 h rfl rfl (by rw [h2, e1, z]) hσ))]; exact e2, q⟩
  · have own : ∀ (j : Nat) (sw : SV), (ρ.set i (.own ps'))[j]? = some sw → sw.isOwn = true → ∃ sw', ρ[j]? = some sw' ∧ sw'.isOwn = true := fun j sw q1 q2 => by
      rcases getq_set q1 with ⟨ej, _, _⟩ | ⟨_, g1⟩
      · exact ⟨_, by rw [ej]; exact h, rfl⟩
      · exact ⟨sw, g1, q2⟩
    obtain ⟨s1, g1, k1⟩ := own j sw h1 h3
    obtain ⟨s2, g2, k2⟩ := own l sx h2 h4
    exact R.dist j l s1 s2 b g1 g2 k1 k2 h5 h6
end
section
variable {cm : Nat → Option Addr} {X : Cx} {W : WX} {pos : Pos} {x : Str} {m : EM} {e : Expr}
theorem ty_list {K : PySem.W.Frag} {H : Hp} {a : Addr} {vs : List V} (h : H a = some (.lst vs)) : tyV K "list" (.ref a) H := .inl ⟨rfl, _, SqL.of h⟩
theorem out_own {c : Cn} {B : Bs} {D : Ends} {G : Gh} {ρ : Env} {i : Nat} {f : List PV → SR} (h : OutS c W B D G (match ρ[i]? with | some (.own xs) => f xs | _ => .bad)) : ∃ xs, ρ[i]? = some (.own xs) ∧ OutS c W B D G (f xs) := by
  cases e : ρ[i]? with
  | none => rw [e] at h; exact h.elim
  | some sv =>
    rw [e] at h
    cases sv with
    | own xs => exact ⟨xs, rfl, h⟩
    | _ => exact h.elim
theorem swaps_call {f : Expr} {as : List Expr} {ks : List Keyword} {p : Pos} {t : Option Expr} {n : Nat} {env : PySem.Env} : swapsWith (.Call f as ks p) t n env = pure false := rfl
/-- x.append(e) -/
theorem cs_app (i : Nat) {p1 apos cpos : Pos} (he : CE cm X W m e) (hN : X.N[i]? = some x := by rfl) (hv : Vis X.env.scope x := by first | exact Or.inl rfl | exact Or.inr (Or.inl rfl) | exact Or.inr (Or.inr rfl)) (hd : (x == ("__debug__" : Str)) = false := by decide)
    (hcd : (x == ("__classdict__" : Str)) = false := by decide) (hs0 : starEach [e] X.env = (false, eval e X.env) :: starEach [] X.env := by rfl)
    (hbase : attributeBase (.Name x p1) "append" X.env (eval (.Name x p1) X.env) = eval (.Name x p1) X.env := by rfl)
    (hfew : ((backTo cpos (starEach [e] X.env)).all (fun x => !x.1) && (backToKw cpos (keywordEach [] X.env)).all (fun x => x.1.isSome) && decide ([e].length + ([] : List Keyword).length + (if ([] : List Keyword).isEmpty then 0 else 1) < 30)) = true := by rfl)
    (hline : (apos.endLine == cpos.line) = true := by rfl) : CS cm X W (sApp i m) (.Expr (.Call (.Attribute (.Name x p1) "append" apos) [e] [] cpos) pos) :=
  PS.weak (ps_expr (pe_bm PySem.F.plainAttrs_list PySem.F.slot_list_append PySem.F.type_list_append mt_append (pe_var hN hv hd hcd) (pa_cons he pa_nil hs0) hbase hfew hline hs0 rfl) swaps_call) fun D σ H ⟨B, ρ, st, G, R, h⟩ => by
    obtain ⟨xs, hr, h⟩ := out_own h
    obtain ⟨a, vs, hσ, ha, ra, n1, n2, n3⟩ := R.ownAt hr
    refine ⟨_, hσ, ty_list ha, B, ρ, st, G, R, OutS.bind R h fun p st1 H1 G1 y s1 R1 rx h1 => ?_⟩
    by_cases hl : xs.length < lim
    · rw [if_pos hl] at h1
      have ha1 := s1.keep _ _ ha n2
      refine ⟨a, vs, y, rfl, rfl, ha1, by rw [ra.len]; exact Nat.lt_of_lt_of_le hl (by decide), ?_⟩
      exact h1 σ _ G1 (.refl G1) (R1.setOwn hr hσ ha1 (s1.nfz _ _ ha n1) (s1.nio _ _ ha n2) n3 ((ra.up s1.toGExt).app (.cons rx .nil)))
    · rw [if_neg hl] at h1
      exact h1.elim
theorem out_eOwn {c : Cn} {α : Type} {rep : Hp → Gh → Hp → V → α → Prop} {Q : VK} {E : XK} {G : Gh} {H : Hp} {ρ : Env} {i : Nat} {f : List PV → R α} (h : Out c rep G H Q E (match ρ[i]? with | some (.own xs) => f xs | _ => .bad)) : ∃ xs, ρ[i]? = some (.own xs) ∧ Out c rep G H Q E (f xs) := by
  cases e : ρ[i]? with
  | none => rw [e] at h; exact h.elim
  | some sv =>
    rw [e] at h
    cases sv with
    | own xs => exact ⟨xs, rfl, h⟩
    | _ => exact h.elim
theorem ce_lenOwn (i : Nat) {p1 p2 : Pos} (hm : X.mg "len" = none) (hN : X.N[i]? = some x := by rfl) (hv : Vis X.env.scope x := by first | exact Or.inl rfl | exact Or.inr (Or.inl rfl) | exact Or.inr (Or.inr rfl)) (hd : (x == ("__debug__" : Str)) = false := by decide)
    (hcd : (x == ("__classdict__" : Str)) = false := by decide) (hg : Gl X "len" := by rfl) : CE cm X W (eLenOwn i) (.Call (.Name "len" p1) [.Name x p2] [] pos) :=
  PE.weak (pe_callB call_len hg hm PySem.boot_len (pa_cons (pe_var hN hv hd hcd) pa_nil)) fun σ H Q ⟨B, ρ, st, G, R, h⟩ => by
    obtain ⟨xs, hr, h⟩ := out_eOwn h
    obtain ⟨a, vs, hσ, ha, ra, n1, n2, n3⟩ := R.ownAt hr
    exact ⟨_, hσ, _, xs.length, rfl, .inl ⟨vs, SqL.of ha, ra.len.symm⟩, h H G _ (.refl G H) R.toSRel .int⟩
theorem ce_tupOwn (i : Nat) {p1 p2 : Pos} (hm : X.mg "tuple" = none) (hN : X.N[i]? = some x := by rfl) (hv : Vis X.env.scope x := by first | exact Or.inl rfl | exact Or.inr (Or.inl rfl) | exact Or.inr (Or.inr rfl)) (hd : (x == ("__debug__" : Str)) = false := by decide)
    (hcd : (x == ("__classdict__" : Str)) = false := by decide) (hg : Gl X "tuple" := by rfl) (hb : bootBuiltins "tuple" = some (.type "tuple") := by decide +kernel) : CE cm X W (eTupOwn i) (.Call (.Name "tuple" p1) [.Name x p2] [] pos) :=
  PE.weak (pe_callTy call_tupleN hg hm hb (pa_cons (pe_var hN hv hd hcd) pa_nil)) fun σ H Q ⟨B, ρ, st, G, R, h⟩ => by
    obtain ⟨xs, hr, h⟩ := out_eOwn h
    obtain ⟨a, vs, hσ, ha, ra, n1, n2, n3⟩ := R.ownAt hr
    exact ⟨_, hσ, a, vs, rfl, .inl ⟨SqL.of ha, fun l o hl hd => rd_new R.toSRel hl (new_tup R.toSRel hl hd ra) h⟩⟩
end
end BR
set_option Elab.async false
set_option linter.all false
set_option maxRecDepth 100000
namespace BR
open PySem PySem.Spec PyProof.Rows L2
abbrev rpO : Hp → Gh → Hp → Option Int → Option Int → Prop := fun _ _ _ b k => b = k
theorem early_O : Early rpO := fun _ _ _ _ _ _ _ h => h
def tO (c : Cn) (W : WX) (m : OM) : TO := fun σ H Q => ∃ B ρ st G, Rel c B σ ρ H st G ∧ Out c rpO G H Q (fun cls d H' => W cls d σ H') (m ρ st)
def CO (cm : Nat → Option Addr) (X : Cx) (W : WX) (m : OM) (e : Option Expr) : Prop := PO X e (tO (cnOf X cm) W m)
theorem PO.weak {X : Cx} {e : Option Expr} {t t' : TO} (h : PO X e t) (w : ∀ σ H Q, t' σ H Q → t σ H Q) : PO X e t' := ⟨fun pins s σ H Q I q => h.run pins s σ H Q I (w σ H Q q)⟩
theorem RepVs.cut {c : Cn} {G : Gh} {vs : List V} {ps : List PV} (r : RepVs c G vs ps) (lo hi : Option Int) : RepVs c G (cutG vs lo hi) (cutG ps lo hi) := by
  unfold cutG
  rw [r.len]
  exact (r.drop _).take _
theorem cutG_whole {α : Type} {xs : List α} {lo hi : Option Int} (h : HT.sIx xs.length 0 lo = 0 ∧ HT.sIx xs.length xs.length hi = xs.length) : cutG xs lo hi = xs := by
  unfold cutG
  rw [h.1, h.2]
  simp
section
variable {cm : Nat → Option Addr} {X : Cx} {W : WX} {pos : Pos} {m : EM} {e : Expr}
theorem co_none : CO cm X W oNone none := PO.weak po_none fun σ H Q ⟨B, ρ, st, G, R, h⟩ => h H G none (.refl G H) R.toSRel rfl
theorem co_some (h : CE cm X W m e) : CO cm X W (oSome m) (some e) := PO.weak (po_some h) fun σ H Q ⟨B, ρ, st, G, R, h⟩ =>
  ⟨B, ρ, st, G, R, Out.bindR early_O R h fun p st1 H1 G1 x s1 R1 rx h1 => by
    cases rx with
    | int => exact ⟨_, rfl, h1 H1 G1 _ (.refl G1 H1) R1.toSRel rfl⟩
    | _ => exact h1.elim⟩
def rSlAll (K : PySem.W.Frag) : V → Option Int → Option Int → Hp → VK → Prop := fun x lo hi H Q => rSlN K x lo hi H Q ∨ (rSlL K x lo hi H Q ∨ rSlS x lo hi H Q)
theorem sl_all : SlR X (rSlAll X.K) := sl_tupN.or (sl_list.or sl_str)
variable {m1 m2 m3 : FM} {a b d : Expr} {x y z : Str}
theorem cs_par (i j : Nat) {px py pt : Pos} {kt k2 : Nat} {pt2 : Pos} (hc : X.calm = true) (hN : X.N.Nodup) (ha : CF cm X W m1 a) (hb : CF cm X W m2 b) (hi : X.N[i]? = some x := by rfl) (hj : X.N[j]? = some y := by rfl) (hij : i ≠ j := by decide)
    (hx : X.env.scope.names.lookup x = some .local := by rfl) (hy : X.env.scope.names.lookup y = some .local := by rfl)
    (hw : swappedStores [.Tuple [.Name x px, .Name y py] kt pt] (.Tuple [a, b] k2 pt2) X.env = pure (some [x, y]) := by rfl)
    (hs : swapsWithSole [.Tuple [.Name x px, .Name y py] kt pt] (.Tuple [a, b] k2 pt2) pos.line X.env = pure false := by rfl) (hs0 : starEach [a, b] X.env = (false, eval a X.env) :: starEach [b] X.env := by rfl) (hs1 : starEach [b] X.env = (false, eval b X.env) :: starEach [] X.env := by rfl) :
    CS cm X W (sPar i j m1 m2) (.Assign [.Tuple [.Name x px, .Name y py] kt pt] (.Tuple [a, b] k2 pt2) pos) :=
  PS.weak (ps_par hc hN hi hj hij hx hy (pa_cons ha (pa_cons hb pa_nil hs1) hs0) hw hs) fun D σ H ⟨B, ρ, st, G, R, h⟩ => by
    refine ⟨B, ρ, st, G, R, ?_⟩
    unfold sPar at h
    cases h1 : m1 ρ st with
    | bad => rw [h1] at h; exact h
    | ex cl ns vs st1 => rw [h1] at h; exact fun H1 G1 cls dd s1 S er => h σ H1 G1 cls dd s1.toGExt (R.step s1 S) er
    | ok v st1 =>
      rw [h1] at h
      intro H1 G1 xv s1 S1 rx
      have R1 := R.step s1 S1
      refine ⟨B, ρ, st1, G1, R1, ?_⟩
      have h : OutS _ _ _ _ _ ((m2 ρ st1).bindS ρ fun w st2 => .next ((ρ.set i v).set j w) st2) := h
      cases h2 : m2 ρ st1 with
      | bad => rw [h2] at h; exact h
      | ex cl ns vs st2 => rw [h2] at h; exact fun H2 G2 cls dd s2 S er => h σ H2 G2 cls dd (s1.trans s2).toGExt (R1.step s2 S) er
      | ok w st2 =>
        rw [h2] at h
        intro H2 G2 yv s2 S2 ry
        have R1' := R.setF (i := i) s1 S1 rx
        exact ⟨xv, yv, rfl, h _ H2 G2 (s1.trans s2).toGExt (R1'.setF (i := j) s2 S2 ry)⟩
/-- the same by way of a tuple: any places of names -/
theorem cs_parT (i j : Nat) {px py pt : Pos} {kt k2 : Nat} {pt2 : Pos} (hc : X.calm = true) (hN : X.N.Nodup) (ha : CF cm X W m1 a) (hb : CF cm X W m2 b) (hi : X.N[i]? = some x := by rfl) (hj : X.N[j]? = some y := by rfl)
    (hx : Loc X.env.scope x := by first | exact .inl rfl | exact .inr rfl) (hy : Loc X.env.scope y := by first | exact .inl rfl | exact .inr rfl)
    (fx : X.fn x = true ∨ X.env.scope.names.lookup x = some .local := by first | exact .inl rfl | exact .inr rfl | assumption) (fy : X.fn y = true ∨ X.env.scope.names.lookup y = some .local := by first | exact .inl rfl | exact .inr rfl | assumption)
    (hw : swappedStores [.Tuple [.Name x px, .Name y py] kt pt] (.Tuple [a, b] k2 pt2) X.env = pure none := by rfl)
    (hs : swapsWithSole [.Tuple [.Name x px, .Name y py] kt pt] (.Tuple [a, b] k2 pt2) pos.line X.env = pure false := by rfl) (hs0 : starEach [a, b] X.env = (false, eval a X.env) :: starEach [b] X.env := by rfl) (hs1 : starEach [b] X.env = (false, eval b X.env) :: starEach [] X.env := by rfl) :
    CS cm X W (sPar i j m1 m2) (.Assign [.Tuple [.Name x px, .Name y py] kt pt] (.Tuple [a, b] k2 pt2) pos) :=
  PS.weak (ps_asg (pe_tup (pa_cons ha (pa_cons hb pa_nil hs1) hs0)) (pg_tup (n := 2) hc (pgs_cons (pg_name hN hi hx fx) (pgs_cons (pg_name hN hj hy fy) pgs_nil))) hs hw rfl) fun D σ H ⟨B, ρ, st, G, R, h⟩ => by
    refine ⟨B, ρ, st, G, R, ?_⟩
    unfold sPar at h
    cases h1 : m1 ρ st with
    | bad => rw [h1] at h; exact h
    | ex cl ns vs st1 => rw [h1] at h; exact fun H1 G1 cls dd s1 S er => h σ H1 G1 cls dd s1.toGExt (R.step s1 S) er
    | ok v st1 =>
      rw [h1] at h
      intro H1 G1 xv s1 S1 rx
      have R1 := R.step s1 S1
      refine ⟨B, ρ, st1, G1, R1, ?_⟩
      have h : OutS _ _ _ _ _ ((m2 ρ st1).bindS ρ fun w st2 => .next ((ρ.set i v).set j w) st2) := h
      cases h2 : m2 ρ st1 with
      | bad => rw [h2] at h; exact h
      | ex cl ns vs st2 => rw [h2] at h; exact fun H2 G2 cls dd s2 S er => h σ H2 G2 cls dd (s1.trans s2).toGExt (R1.step s2 S) er
      | ok w st2 =>
        rw [h2] at h
        intro H2 G2 yv s2 S2 ry
        have R1' := R.setF (i := i) s1 S1 rx
        have R2' := R1'.setF (i := j) s2 S2 ry
        refine ⟨(by show 2 ≤ _; decide), fun p hp => ?_⟩
        obtain ⟨S3, s3⟩ := S2.fresh (o := .tup [xv, yv]) hp
        exact ⟨p, [xv, yv], rfl, SqT.of upd_same, rfl, xv, [yv], rfl, yv, [], rfl, rfl, h _ _ G2 ((s1.trans s2).trans s3).toGExt (R2'.step s3 S3)⟩
end
end BR
set_option Elab.async false
set_option linter.all false
set_option maxRecDepth 100000
namespace BR
open PySem PySem.Spec PyProof.Rows L2
theorem ite_some {α : Type} {c : Prop} [Decidable c] {x : Option α} {b : α} (h : (if c then x else none) = some b) : c ∧ x = some b := by
  by_cases e : c
  · rw [if_pos e] at h
    exact ⟨e, h⟩
  · rw [if_neg e] at h
    cases h
section
variable {c : Cn} {B : Bs} {σ : L2.St} {ρ : Env} {H H1 : Hp} {st st1 : Store} {G G1 : Gh}
theorem frzOld {a : Addr} {o : HO} (s1 : Stp G H G1 H1) (S1 : SRel c H1 st1 G1) (ha : H1 a = some o) (n1 : G1.fz a = none) (n2 : a ∉ G1.io) (n3 : H a = none) :
    SRel c H1 st1 ⟨upd G1.fz a o, G1.io⟩ ∧ Stp G H ⟨upd G1.fz a o, G1.io⟩ H1 ∧ GExt G1 ⟨upd G1.fz a o, G1.io⟩ := by
  have ext : GExt G1 ⟨upd G1.fz a o, G1.io⟩ := ⟨fun b u hb => by
    show upd G1.fz a _ b = _
    rw [upd_ne (ne_of_none hb n1)]; exact hb, fun _ _ z => z⟩
  refine ⟨⟨fun b u hb => ?_, S1.nd, fun b hb => ?_, S1.len, fun i b o q1 q2 => ?_⟩, ⟨s1.toGExt.trans ext, s1.keep, s1.live, fun b o' hb hz => ?_, s1.nio⟩, ext⟩
  · by_cases eb : b = a
    · have hb' : upd G1.fz a o b = some u := hb
      rw [eb, upd_same] at hb'
      rw [eb, ha]; exact hb'
    · have hb' : upd G1.fz a o b = some u := hb
      rw [upd_ne eb] at hb'
      exact S1.fzH b u hb'
  · show upd G1.fz a _ b = none
    rw [upd_ne (show b ≠ a from fun z => n2 (by rw [← z]; exact hb))]
    exact S1.iofz b hb
  · have q := S1.obj i b o q1 q2
    cases o with
    | lst qs =>
      obtain ⟨ws, z, rr⟩ := q
      exact ⟨ws, z, rr.up ext⟩
    | ins cl ns qs =>
      obtain ⟨C, dx, fvs, z, hc, hn, rr⟩ := q
      exact ⟨C, dx, fvs, z, hc, hn, rr.up ext⟩
  · show upd G1.fz a _ b = none
    rw [upd_ne (ne_of_none hb n3)]
    exact s1.nfz b o' hb hz
theorem SObj.up {a : Addr} {so : SO} (h : SObj c G H a so) (e : GExt G G1) : SObj c G1 H a so := by
  cases so with
  | lst qs =>
    obtain ⟨ws, z, rr⟩ := h
    exact ⟨ws, z, rr.up e⟩
  | ins cl ns qs =>
    obtain ⟨C, dx, fvs, z, hc, hn, rr⟩ := h
    exact ⟨C, dx, fvs, z, hc, hn, rr.up e⟩
theorem SObj.at {a : Addr} {so : SO} {H' : Hp} (h : SObj c G H a so) (e : H' a = H a) : SObj c G H' a so := by
  cases so with
  | lst qs =>
    obtain ⟨ws, z, rr⟩ := h
    exact ⟨ws, by rw [e]; exact z, rr⟩
  | ins cl ns qs =>
    obtain ⟨C, dx, fvs, z, hc, hn, rr⟩ := h
    exact ⟨C, dx, fvs, by rw [e]; exact z, hc, hn, rr⟩
theorem storeOld {a : Addr} {so : SO} (s1 : Stp G H G1 H1) (S1 : SRel c H1 st1 G1) (ha : SObj c G1 H1 a so) (n1 : G1.fz a = none) (n2 : a ∉ G1.io) (n3 : H a = none) :
    SRel c H1 (st1 ++ [so]) ⟨G1.fz, G1.io ++ [a]⟩ ∧ Stp G H ⟨G1.fz, G1.io ++ [a]⟩ H1 ∧ (⟨G1.fz, G1.io ++ [a]⟩ : Gh).io[st1.length]? = some a := by
  have at_ : ∀ (i : Nat) (b : Addr), (G1.io ++ [a])[i]? = some b → (i < G1.io.length ∧ G1.io[i]? = some b) ∨ (i = G1.io.length ∧ b = a) := fun i b h => by
    by_cases hi : i < G1.io.length
    · rw [List.getElem?_append_left hi] at h
      exact .inl ⟨hi, h⟩
    · rw [List.getElem?_append_right (Nat.le_of_not_lt hi)] at h
      have : i - G1.io.length = 0 := by
        cases e : i - G1.io.length with
        | zero => rfl
        | succ n => rw [e] at h; simp at h
      rw [this] at h
      cases h
      exact .inr ⟨by omega, rfl⟩
  have ext : GExt G1 ⟨G1.fz, G1.io ++ [a]⟩ := ⟨fun _ _ h => h, fun i b h => by
    show (G1.io ++ [a])[i]? = some b
    rw [List.getElem?_append_left (List.getElem?_eq_some_iff.mp h).1]
    exact h⟩
  refine ⟨⟨S1.fzH, fun i j b h1 h2 => ?_, fun b hb => ?_, by simp [S1.len], fun i b o h1 h2 => ?_⟩, ⟨s1.toGExt.trans ext, s1.keep, s1.live, s1.nfz, fun b o hb hn => ?_⟩, ?_⟩
  · rcases at_ i b h1 with ⟨i1, h1⟩ | ⟨i1, e1⟩
    · rcases at_ j b h2 with ⟨j1, h2⟩ | ⟨j1, e2⟩
      · exact S1.nd i j b h1 h2
      · exact absurd (List.mem_of_getElem? (e2 ▸ h1)) n2
    · rcases at_ j b h2 with ⟨j1, h2⟩ | ⟨j1, e2⟩
      · exact absurd (List.mem_of_getElem? (e1 ▸ h2)) n2
      · rw [i1, j1]
  · rcases List.mem_append.mp hb with hb | hb
    · exact S1.iofz b hb
    · rw [List.mem_singleton.mp hb]
      exact n1
  · rcases at_ i b h1 with ⟨i1, h1⟩ | ⟨i1, e1⟩
    · rw [S1.len] at i1
      rw [List.getElem?_append_left i1] at h2
      exact (S1.obj i b o h1 h2).up ext
    · rw [S1.len] at i1
      rw [i1, List.getElem?_concat_length] at h2
      cases h2
      rw [e1]
      exact ha.up ext
  · intro hm
    rcases List.mem_append.mp hm with hm | hm
    · exact s1.nio b o hb hn hm
    · rw [List.mem_singleton.mp hm, n3] at hb
      cases hb
  · show (G1.io ++ [a])[st1.length]? = some a
    rw [← S1.len, List.getElem?_concat_length]
/-- an object of the store is written -/
theorem SRel.setObj {i : Nat} {a : Addr} {so : SO} {o : HO} (S : SRel c H st G) (hi : G.io[i]? = some a) (h : SObj c G (upd H a o) a so) : SRel c (upd H a o) (st.set i so) G ∧ Stp G H G (upd H a o) := by
  have hf : G.fz a = none := S.iofz a (List.mem_of_getElem? hi)
  refine ⟨⟨fun b u hb => by rw [upd_ne (ne_of_none hb hf)]; exact S.fzH b u hb, S.nd, S.iofz, by simp [S.len], fun j b u h1 h2 => ?_⟩, ⟨.refl G, fun b u hb hn => ?_, fun b u hb => ?_, fun b u hb hz => hz, fun b u hb hn => hn⟩⟩
  · rcases getq_set h2 with ⟨e, _, e1⟩ | ⟨ne, g2⟩
    · subst e e1
      rw [hi] at h1
      cases h1
      exact h
    · exact (S.obj j b u h1 g2).at (upd_ne fun e => ne (S.nd j i b h1 (by rw [e]; exact hi)))
  · rw [upd_ne (show b ≠ a from fun z => hn (by rw [z]; exact List.mem_of_getElem? hi))]
    exact hb
  · by_cases e : b = a
    · exact ⟨o, by rw [e, upd_same]⟩
    · exact ⟨u, by rw [upd_ne e]; exact hb⟩
end
end BR
set_option Elab.async false
set_option linter.all false
set_option maxRecDepth 100000
namespace BR
open PySem PySem.Spec PyProof.Rows L2
end BR
set_option Elab.async false
set_option linter.all false
set_option maxRecDepth 100000
namespace BR
open PySem PySem.Spec PyProof.Rows L2
section
variable {c : Cn} {B : Bs} {σ : L2.St} {ρ : Env} {H H1 : Hp} {st st1 : Store} {G G1 : Gh}
theorem lstAt_at {p : PV} {v : V} {xs : List PV} (S : SRel c H st G) (r : RepV c G v p) (h : lstAt p st = some xs) : ∃ a i vs, v = .ref a ∧ p = .ref i ∧ G.io[i]? = some a ∧ H a = some (.lst vs) ∧ RepVs c G vs xs := by
  cases r with
  | @ref a i h1 =>
    have h : (match st[i]? with | some (SO.lst xs) => some xs | _ => none) = some xs := h
    cases e : st[i]? with
    | none => rw [e] at h; cases h
    | some o =>
      rw [e] at h
      cases o with
      | lst ys =>
        cases h
        obtain ⟨vs, q1, q2⟩ := S.obj i _ _ h1 e
        exact ⟨a, i, vs, rfl, rfl, h1, q1, q2⟩
      | ins _ _ _ => cases h
  | _ => cases h
theorem putL_at {p : PV} {v : V} {ys : List PV} {vs ws : List V} {a : Addr} {st' : Store} (S : SRel c H st G) (r : RepV c G v p) (hv : v = .ref a) (ha : H a = some (.lst vs)) (ry : RepVs c G ws ys) (h : putL st p ys = some st') : SRel c (upd H a (.lst ws)) st' G ∧ Stp G H G (upd H a (.lst ws)) := by
  cases r with
  | @ref b i h1 =>
    cases hv
    have h : some (st.set i (.lst ys)) = some st' := h
    cases h
    exact S.setObj h1 ⟨ws, upd_same, ry⟩
  | _ => cases h
def Rd2S (c : Cn) (r : R2) (f : PV → PV → Store → Option PV) : Prop := ∀ (G : Gh) (H : Hp) (st : Store) (v w : V) (p q z : PV) (Q : VK), SRel c H st G → RepV c G v p → RepV c G w q → f p q st = some z →
  (∀ H' G' x, Stp G H G' H' → SRel c H' st G' → RepV c G' x z → Q x H') → r v w H Q
def Rd1S (c : Cn) (r : List V → Hp → VK → Prop) (f : PV → Store → Option PV) : Prop := ∀ (G : Gh) (H : Hp) (st : Store) (v : V) (p z : PV) (Q : VK), SRel c H st G → RepV c G v p → f p st = some z →
  (∀ H' G' x, Stp G H G' H' → SRel c H' st G' → RepV c G' x z → Q x H') → r [v] H Q
theorem rd_ixS : Rd2S c (rIx c.K) pIdxS := by
  intro G H st v w p q z Q S rv rw' h k
  cases p with
  | ref i =>
    have h : (lstAt (.ref i) st).bind (fun xs => pIdx (.lst xs) q) = some z := h
    cases e : lstAt (.ref i) st with
    | none => rw [e] at h; cases h
    | some xs =>
      rw [e] at h
      have h : pIdx (.lst xs) q = some z := h
      obtain ⟨a, _, vs, rfl, _, _, ha, ra⟩ := lstAt_at S rv e
      cases rw' with
      | @int i =>
        obtain ⟨v, h1, h2⟩ := ra.atI (show L2.atI xs i = some z from h)
        exact .inl ⟨a, vs, i, v, rfl, rfl, SqL.of ha, h1, rd_now S h2 k⟩
      | _ => cases h
  | _ => exact rd_ix G H st v w _ q z Q S rv rw' h k
theorem rd_lenS : Rd1S c (rLenA c.K) nLenS := by
  intro G H st v p z Q S rv h k
  cases p with
  | ref i =>
    have h : (lstAt (.ref i) st).map (fun xs => PV.int xs.length) = some z := h
    cases e : lstAt (.ref i) st with
    | none => rw [e] at h; cases h
    | some xs =>
      rw [e] at h
      have h : some (PV.int xs.length) = some z := h
      cases h
      obtain ⟨a, _, vs, rfl, _, _, ha, ra⟩ := lstAt_at S rv e
      exact ⟨_, xs.length, rfl, .inl ⟨vs, SqL.of ha, ra.len.symm⟩, rd_now S .int k⟩
  | _ => exact rd_len G H st [v] [_] z Q S (.cons rv .nil) h k
end
section
variable {cm : Nat → Option Addr} {X : Cx} {W : WX} {pos p : Pos} {m n mo : EM} {f : FM} {a b e o : Expr} {x : Str}
/-- a fresh list becomes an object of the store -/
theorem ce_newL (h : CF cm X W f e) : CE cm X W (eNewL f) e := PE.weak h fun σ H Q ⟨B, ρ, st, G, R, h⟩ => by
  refine ⟨B, ρ, st, G, R, ?_⟩
  unfold eNewL at h
  cases hr : f ρ st with
  | bad => rw [hr] at h; exact h
  | ex cl ns vs st1 => rw [hr] at h; exact h
  | ok sv st1 =>
    rw [hr] at h
    intro H1 G1 x s1 S1 rx
    cases sv with
    | un => exact rx.elim
    | ins _ _ _ => exact rx.elim
    | val p => exact h.elim
    | own ps =>
      obtain ⟨a, vs, e, ha, r, n1, n2, n3⟩ := rx
      subst e
      obtain ⟨S2, s2, hi⟩ := storeOld (so := .lst ps) s1 S1 ⟨vs, ha, r⟩ n1 n2 n3
      exact h H1 _ (.ref a) s2 S2 (.ref hi)
theorem ce_ixS (ha : CE cm X W m a) (hb : CE cm X W n b) (hs : PlainIx b := by exact fun _ _ => rfl) : CE cm X W (eOp2S pIdxS m n) (.Subscript a b pos) := PE.weak (pe_ix ix_seq ha hb hs) fun σ H Q ⟨B, ρ, st, G, R, h⟩ =>
  ⟨B, ρ, st, G, R, Out.bindR early_E R h fun p st1 H1 G1 x s1 R1 rx h1 => ⟨B, ρ, st1, G1, R1, Out.bindR early_E R1 h1 fun q st2 H2 G2 y s2 R2 ry h2 => by
    obtain ⟨z, e, h3⟩ := out_ofOpt h2
    exact rd_ixS (c := cnOf X cm) G2 H2 st2 x y p q z Q R2.toSRel (rx.up s2.toGExt) ry e h3⟩⟩
theorem ce_lenS {p : Pos} (hm : X.mg "len" = none) (he : CE cm X W m e) (hg : Gl X "len" := by rfl) (hs : starEach [e] X.env = (false, eval e X.env) :: starEach [] X.env := by rfl) : CE cm X W (eOp1S nLenS m) (.Call (.Name "len" p) [e] [] pos) :=
  PE.weak (pe_callB call_len hg hm PySem.boot_len (pa_cons he pa_nil hs) (by decide) (by decide) hs) fun σ H Q ⟨B, ρ, st, G, R, h⟩ =>
  ⟨B, ρ, st, G, R, Out.bindR early_E R h fun p st1 H1 G1 x s1 R1 rx h1 => by
    obtain ⟨z, e, h3⟩ := out_ofOpt h1
    exact rd_lenS (c := cnOf X cm) G1 H1 st1 x p z Q R1.toSRel rx e h3⟩
theorem ce_cutS {lo hi : Option Expr} {l h : OM} {p2 : Pos} (he : CE cm X W m e) (hl : CO cm X W l lo) (hh : CO cm X W h hi) : CE cm X W (eCutS m l h) (.Subscript e (.Slice lo hi none p2) pos) :=
  PE.weak (pe_slice sl_all he hl hh) fun σ H Q ⟨B, ρ, st, G, R, k⟩ =>
  ⟨B, ρ, st, G, R, Out.bindR early_E R k fun p st1 H1 G1 x s1 R1 rx k1 =>
    ⟨B, ρ, st1, G1, R1, Out.bindR early_E R1 k1 fun a st2 H2 G2 y s2 R2 ry k2 =>
      ⟨B, ρ, st2, G2, R2, Out.bindR early_E R2 k2 fun b st3 H3 G3 z s3 R3 rz k3 => by
        have ey : y = a := ry
        have ez : z = b := rz
        subst ey ez
        obtain ⟨q, eq, k4⟩ := out_ofOpt k3
        have rx3 := rx.up (s2.trans s3).toGExt
        cases rx3 with
        | @tup t vs ps ha ra =>
          have eq : some (PV.tup (cutG ps y z)) = some q := eq
          cases eq
          refine .inl ⟨t, vs, rfl, R3.sqT ha, fun hw => ?_, fun _ n o hn hd => rd_new R3.toSRel hn (new_tup R3.toSRel hn hd (ra.cut y z)) k4⟩
          rw [ra.len] at hw
          rw [cutG_whole hw] at k4
          exact rd_now R3.toSRel (.tup ha ra) k4
        | @lst t vs ps ha ra =>
          have eq : some (PV.lst (cutG ps y z)) = some q := eq
          cases eq
          exact .inr (.inl ⟨t, vs, rfl, SqL.of (R3.lst ha), fun n hn => rd_new R3.toSRel hn (new_lst R3.toSRel hn (ra.cut y z)) k4⟩)
        | @str s =>
          obtain ⟨hl, rfl⟩ := some_ite eq
          refine .inr (.inr ⟨_, rfl, by rw [str_len]; exact lim_line hl, ?_⟩)
          have e2 : cutS ⟨s.toArray⟩ y z = ⟨(cutG s y z).toArray⟩ := by
            unfold cutS cutG
            rw [str_len]
          rw [e2]
          exact rd_now R3.toSRel .str k4
        | @ref t i hi =>
          have eq : (lstAt (.ref i) st3).map (fun xs => PV.lst (cutG xs y z)) = some q := eq
          cases e : lstAt (.ref i) st3 with
          | none => rw [e] at eq; cases eq
          | some xs =>
            rw [e] at eq
            have eq : some (PV.lst (cutG xs y z)) = some q := eq
            cases eq
            obtain ⟨a, _, vs, e1, _, _, ha, ra⟩ := lstAt_at R3.toSRel (.ref hi) e
            exact .inr (.inl ⟨a, vs, e1, SqL.of ha, fun n hn => rd_new R3.toSRel hn (new_lst R3.toSRel hn (ra.cut y z)) k4⟩)
        | _ => cases eq⟩⟩⟩
/-- o[k] = e -/
theorem cs_setIxL {k : EM} {ke : Expr} {p2 : Pos} (he : CE cm X W m e) (ho : CE cm X W mo o) (hk : CE cm X W k ke)
    (ha : ∀ v, assign (.Subscript o ke p2) X.env v = (do
      let ov ← holding [v] (eval o X.env)
      let iv ← holding [v, ov] (eval ke X.env)
      standAt p2
      holding [v, ov, iv] (setItem ov iv v)
      release [v, ov, iv] []) := by intro _; rfl)
    (hs : swapsWithSole [.Subscript o ke p2] e pos.line X.env = pure false := by rfl) (hw : swappedStores [.Subscript o ke p2] e X.env = pure none := by rfl) : CS cm X W (sSetIxL mo m k) (.Assign [.Subscript o ke p2] e pos) :=
  PS.weak (ps_asg he (pg_sub ho hk set_list ha) hs hw rfl) fun D σ H ⟨B, ρ, st, G, R, h⟩ => by
    refine ⟨B, ρ, st, G, R, OutS.bind R h fun p st1 H1 G1 y s1 R1 rx h1 => ?_⟩
    refine ⟨B, ρ, st1, G1, R1, OutS.bind R1 h1 fun r st2 H2 G2 z s2 R2 rz h2 => ?_⟩
    refine ⟨B, ρ, st2, G2, R2, OutS.bind R2 h2 fun q st3 H3 G3 w s3 R3 rw' h3 => ?_⟩
    cases el : lstAt r st3 with
    | none => simp only [el] at h3; exact h3.elim
    | some xs =>
      cases rw' with
      | @int j =>
        simp only [el] at h3
        cases ek : L2.ixN xs.length j with
        | none => rw [ek] at h3; exact h3.elim
        | some i =>
          rw [ek] at h3
          have rz3 := rz.up s3.toGExt
          obtain ⟨a, _, vs, rfl, _, _, ha, ra⟩ := lstAt_at R3.toSRel rz3 el
          have h3 : OutS _ _ _ _ _ (match putL st3 r (xs.set i p) with | some st4 => SR.next ρ st4 | none => .bad) := h3
          cases ep : putL st3 r (xs.set i p) with
          | none => rw [ep] at h3; exact h3.elim
          | some st4 =>
            rw [ep] at h3
            obtain ⟨S4, s4⟩ := putL_at R3.toSRel rz3 rfl ha (ra.setN (rx.up (s2.trans s3).toGExt) i) ep
            exact ⟨a, vs, j, i, rfl, rfl, ha, by rw [ra.len]; exact ek, h3 σ _ G3 (.refl G3) (R3.step s4 S4)⟩
      | _ => simp only [el] at h3; exact h3.elim
variable {f1 f2 f3 : FM} {d : Expr} {y z : Str}
end
end BR
set_option Elab.async false
set_option linter.all false
set_option maxRecDepth 100000
namespace BR
open PySem PySem.Spec PyProof.Rows L2
section
variable {X : Cx} {CX : CXT} {k : Nat} {f C fI : Addr} {fd : FuncData} {ps : List Str} {sp : Sp} {x : Str} {p p1 p2 pos : Pos} {e : Expr} {es : List Expr} {ta : TA}
/-- B.__init__(self, ..), B an own class over ValueError without an own __init__ -/
theorem pe_beinit {CB : Addr} {bn : Str} {pl : Sem Bool} (hg : Gl X bn) (hm : X.mg bn = some (.ref CB)) (hga : PySem.W.specialIn X.K (.ref CB) "__getattribute__" = some (some (.builtin "type.__getattribute__"))) (hrd : PySem.W.readsIn X.K CB (.type "type") = true)
    (vV : PySem.W.findCls X.K (.ref CB) (.type "type") "__init__" = some (.val (.builtin "ValueError.__init__"))) (ha : PA X (e :: es) ta)
    (hc : eval (.Call (.Attribute (.Name bn p1) "__init__" p2) (e :: es) [] pos) X.env = (do
      let ov ← eval (.Name bn p1) X.env
      standAt p2.atName
      let (f, first) ← holding [ov] (getMethod ov "__init__" pl)
      callWith pos f first (backTo pos (starEach (e :: es) X.env)) (backToKw pos (keywordEach [] X.env))) := by rfl) (hdb : (bn == ("__debug__" : Str)) = false := by decide)
    (he : starEach (e :: es) X.env = (false, eval e X.env) :: starEach es X.env := by rfl) (hpl : (backTo pos (starEach es X.env)).any (·.1) = false := by rfl) :
    PE X (.Call (.Attribute (.Name bn p1) "__init__" p2) (e :: es) [] pos) (tVeI X.K ta) := by
  refine ⟨fun pins s σ H Q I h => ?_⟩
  refine PySem.W.methodCall_KW (ld_glob I hg hm ?_ hdb) hc
  obtain ⟨m, fr⟩ := I.fr
  refine PySem.W.method_of_cls fr I.ok.mod.kin hga (PySem.W.cls_value I.kIn hrd vV (by decide +kernel) ?_)
  show wpAny _ _ (callWith pos (Value.builtin "ValueError.__init__") [] (backTo pos (starEach (e :: es) X.env)) []) _ _ _
  refine PyProof.Rows.callWith_method1 (thn (ha.run pos pins _ σ H _ (I.tok _) h) fun us s1 ⟨vs, H1, I1, r1, a, C, ws, ev, hl, T, ea, q⟩ => ?_) he hpl
  subst ev
  cases r1 with
  | @cons _ u0 _ ur ra rw' =>
    obtain rfl : u0 = Value.ref a := ra
    have hlen : ur.length ≤ sizeLine := by
      rw [← Paired.length rw', sizeLine_eq]
      omega
    exact oinit_ok T I1 ea hlen fun s' J => ⟨.non, H1, J, rfl, q⟩
/-- what the base class must have -/
structure BexC (K : PySem.W.Frag) (CB : Addr) : Prop where
  ga : PySem.W.specialIn K (.ref CB) "__getattribute__" = some (some (.builtin "type.__getattribute__"))
  rd : PySem.W.readsIn K CB (.type "type") = true
  ini : PySem.W.findCls K (.ref CB) (.type "type") "__init__" = some (.val (.builtin "ValueError.__init__"))
def spX0 (K : PySem.W.Frag) (C : Addr) : Sp := fun vs H Q _ => ∃ a, vs = [.ref a] ∧ OexC K C ∧ H a = some (exo a C none) ∧ Q .non H
end
section
variable {P : Program} {w : World} {K : PySem.W.Frag} {mg : Str → Option Value} {base : Heap}
theorem ok_exc0 {x qual msg : Str} {params : Arguments} {scope : Scope} {fa C : Addr} {fd : FuncData} {j : Nat} {e1 : Expr} {p6 : Pos} (F : FunD K x qual params
      [.Expr e1 p6] scope [] [] fa fd) (S : FnScope ["self"] ["self"] scope)
    (h1 : ∀ (cdv : Value) (A : Around) (outer : List PySem.Env) (s : Shared) (H : Hp) (E : XK), PE (cxOf (L2.CX P w) P w K mg base ["self"] qual scope fa cdv A outer s H E) e1 (tVeI K (tCons (tVar 0) (tCons (tC (.str msg)) tNil))))
    (hsw : ∀ (n : Nat) (env : PySem.Env), swapsWith e1 none n env = pure false) : FnOk P w K mg base (L2.CX P w) (j + 1) fa fd ["self"] (spX0 K C) := by
  refine F.ok S (fun vs H Q E h => ?_) (fun cdv A outer s H vs Q E hr h => ?_)
  · obtain ⟨a, rfl, _⟩ := h
    rfl
  · obtain ⟨a, rfl, T, ha, q⟩ := h
    refine ⟨_, pss_cons (ps_expr (h1 cdv A outer s H E) (hsw _ _)) pss_nil, ?_⟩
    exact ⟨.ref a, rfl, a, C, [_], rfl, by show 1 ≤ 1000; decide, T, ha, q⟩
end
section
variable {X : Cx} {CX : CXT} {k : Nat} {f C fI : Addr} {fd : FuncData} {ps : List Str} {sp : Sp} {x : Str} {p p1 p2 pos : Pos} {e : Expr} {es : List Expr} {ta : TA}
theorem mk_endN {pins : List (Addr × Obj)} {σ : L2.St} {H1 H2 : Hp} {Q : XK} {hp hp2 h2 : Heap} {g1 g2 : Array GenState} {d1 d2 : Drawn} {t1 t2 : Nat} {os1 os2 : OsState} {a C : Addr} (T : Raises X (.ref C)) (I1 : Inv X pins σ H1 ⟨hp, g1, d1, t1, os1⟩)
    (ha : hp.objs.size ≤ a) (k : ∀ b o, hp.get? b = some o → hp2.get? b = some o) (un : Un (frs X.stack) [] (upd H1 a (exo a C none)) H2 hp2 h2) (hok : HOk X.prog X.w H2 h2) (ho : os2 = os1) (hb : AllBare g2)
    (ea : H2 a = some (exo a C none)) (q : Q (.ref C) none (del H2 a)) : MkP X pins σ Q (.ref a) ⟨h2, g2, d2, t2, os2⟩ := by
  obtain ⟨t0, hoe⟩ := exo_at hok ea
  have hn : H1 a = none := I1.hok.fresh ha
  obtain ⟨G, g1', g2'⟩ := restrict h2 fun b => decide (b ≠ a)
  have gk : ∀ b, b ≠ a → G.get? b = h2.get? b := fun b hb => g1' b (decide_eq_true hb)
  have ge : G.get? a = none := g2' a (by simp)
  have nha : ∀ {b : Addr} {o : Obj}, hp.get? b = some o → b ≠ a := fun {b o} z => Nat.ne_of_lt (Nat.lt_of_lt_of_le (Heap.lt_size z) ha)
  have up : ∀ {b : Addr}, b ≠ a → H1 b = none → upd H1 a (exo a C none) b = none := fun {b} hb n => by rw [upd_ne hb]; exact n
  have U : Un (frs X.stack) [] H1 (del H2 a) hp G := {
    keep := fun b o z n hf hx => by
      rw [gk b (nha z)]
      exact un.keep b o (k b o z) (up (nha z) n) hf hx
    slot := fun b o z n hf hx => by
      rw [gk b (nha z)]
      exact un.slot b o (k b o z) (up (nha z) n) hf hx
    free := fun b o z n hx => by
      rw [del_ne (nha z)]
      exact un.free b o (k b o z) (up (nha z) n) hx
    there := fun b o z hx => by
      rw [gk b (nha z)]
      exact un.there b o (k b o z) hx
    tups := fun b xs z => by
      rw [del_ne (ne_of_none z hn)]
      exact un.tups b xs (by rw [upd_ne (ne_of_none z hn)]; exact z)
    frzs := fun b o v z => by
      rw [del_ne (ne_of_none z hn)]
      exact un.frzs b o v (by rw [upd_ne (ne_of_none z hn)]; exact z)
    tbls := fun b ps z => by
      rw [del_ne (ne_of_none z hn)]
      exact un.tbls b ps (by rw [upd_ne (ne_of_none z hn)]; exact z) }
  have hok3 : HOk X.prog X.w (del H2 a) G := fun b o z => by
    have hba : b ≠ a := fun e => by
      rw [e, del_same] at z
      cases z
    rw [del_ne hba] at z
    have noa : ∀ {c : Addr}, H2 c = some (.own b) → c ≠ a := fun {c} hc => at_ne ea hc exo_own
    exact (hok b o z).stay (fun c v hc y => by
        have hca : c ≠ a := by
          rcases hc with hc | hc
          · rw [hc]
            exact hba
          · exact noa hc
        rw [gk c hca]
        exact y)
      (fun c hc => by rw [del_ne (noa hc)]; exact hc) (fun c xs hc => by rw [del_ne (at_ne ea hc exo_tup)]; exact hc)
  have J : Inv X pins σ (del H2 a) ⟨G, g2, d2, t2, os2⟩ := I1.call' (ch := []) ho U hok3 hb (fun b z => absurd z (by simp))
  exact ⟨a, _, _, ⟨G, g2, d2, t2, os2⟩, _, .ref C, none, rfl, J, fun b o z => by
    by_cases hba : b = a
    · rw [hba, ge] at z
      cases z
    · exact (gk b hba).symm.trans z, ge, hoe, ⟨rfl, rfl⟩, rfl, rfl, del_same, rfl, hb, T, q⟩
theorem pmk_oex0 (T : OexC X.K C) (iC : PySem.W.findIn X.K (.ref C) "__init__" = some (some (.ref fI))) (tI : PySem.W.typeIn X.K (.ref fI) = some (.type "function"))
    (F1 : FnOk X.prog X.w X.K X.mg X.base (L2.CX X.prog X.w) k fI fd ["self"] (spX0 X.K C)) (hr : Room (k + 1) X.A) (hb : Binds X.K fd ["self"] []) (hg : Gl X x) (hm : X.mg x = some (.ref C))
    (hdb : (x == ("__debug__" : Str)) = false := by decide) :
    PMk X (.Call (.Name x p) [] [] pos) (fun σ H Q => Q (.ref C) none H) := by
  intro pins s σ H Q I h
  obtain ⟨nm, q, N, bs, bm, sn, sub, ab, col, dd, k0, k1, k2, k3, k5, hC, hbm⟩ := T.cls
  refine wpAny_Call_Name_kw (ld_glob I hg hm ?_ hdb)
  refine PySem.W.callWith_K0 I.kIn T.kC ?_
  show wpAny _ _ (call (.ref C) []) _ _ _
  obtain ⟨hp, g, dr, tk, os⟩ := s
  have hsz : hp.objs.size ≤ hp.objs.size + 1 := Nat.le_succ _
  have hn : H (hp.objs.size + 1) = none := I.hok.fresh hsz
  have kk : ∀ b o, hp.get? b = some o → ((hp.push (PySem.W.kdv_tup [])).push (PySem.HandSPX.excO C hp.objs.size)).get? b = some o := fun b o e => Heap.get?_push_of_some _ (Heap.get?_push_of_some _ e)
  have hget : ((hp.push (PySem.W.kdv_tup [])).push (PySem.HandSPX.excO C hp.objs.size)).get? (hp.objs.size + 1) = some (PySem.HandSPX.excO C hp.objs.size) := by heap_get
  have I2 : Inv X pins σ (upd H (hp.objs.size + 1) (exo (hp.objs.size + 1) C none)) ⟨(hp.push (PySem.W.kdv_tup [])).push (PySem.HandSPX.excO C hp.objs.size), g, dr, tk, os⟩ :=
    I.laid (t' := tk) (a := hp.objs.size + 1) (o := exo (hp.objs.size + 1) C none) (h' := (hp.push (PySem.W.kdv_tup [])).push (PySem.HandSPX.excO C hp.objs.size)) kk hsz (exo_ok hget)
  have hd : del (upd H (hp.objs.size + 1) (exo (hp.objs.size + 1) C none)) (hp.objs.size + 1) = H := by
    funext b
    by_cases e : b = hp.objs.size + 1
    · rw [e, del_same, hn]
    · rw [del_ne e, upd_ne e]
  have hq : spX0 X.K C [.ref (hp.objs.size + 1)] (upd H (hp.objs.size + 1) (exo (hp.objs.size + 1) C none)) (fun v H2 => v = .non ∧ H2 (hp.objs.size + 1) = some (exo (hp.objs.size + 1) C none) ∧ Q (.ref C) none (del H2 (hp.objs.size + 1))) (fun _ _ _ => False) :=
    ⟨_, rfl, T, upd_same, rfl, upd_same, by rw [hd]; exact h⟩
  refine wpAny_call (PySem.HandSPX.call_own (rest := []) F.excBase_ValueError (fun Y => PySem.HandSPX.refsVE_contains Y bm hbm) (I.kIn _ _ hC) (PySem.W.looks_findIn I.kIn iC) (fun self => PySem.W.bind_fn I.kIn self tI) (Nat.zero_le _)
    (codeAny_mono (F1.run _ X.stack _ _ ⟨[Value.ref (hp.objs.size + 1)], []⟩ [Value.ref (hp.objs.size + 1)] [V.ref (hp.objs.size + 1)] _ (fun _ _ _ => False) (hr.make C [] []) (I2.env0.make C [] []) (hb _ [Value.ref (hp.objs.size + 1)] I2.kIn rfl) (.cons rfl .nil) hq) fun r s' hq' => ?_))
  cases r with
  | error er => exact passL pins σ _ _ er s' I2 hq'
  | ok fl =>
    cases fl with
    | ret u =>
      obtain ⟨v, H2, os2, bare2, un2, hok2, rv, ev, ea, q2⟩ := hq'
      subst ev
      obtain ⟨h2, g2, d2, t2, os'⟩ := s'
      exact ⟨rv, mk_endN (raises_own T.exC T.tyC) I hsz kk un2 hok2 os2 bare2 ea q2⟩
    | next => exact False.elim hq'
    | brk => exact False.elim hq'
    | cont => exact False.elim hq'
end
section
variable {cm : Nat → Option Addr} {X : Cx} {W : WX} {pos p pos2 : Pos} {m : EM} {e : Expr} {k : Nat} {C fI : Addr} {fd : FuncData} {x f y : Str} {cl : Nat}
theorem cs_raise0 (hc : X.calm = true) (tk : Takes X W) (T : OexC X.K C) (iC : PySem.W.findIn X.K (.ref C) "__init__" = some (some (.ref fI))) (tI : PySem.W.typeIn X.K (.ref fI) = some (.type "function"))
    (F1 : FnOk X.prog X.w X.K X.mg X.base (L2.CX X.prog X.w) k fI fd ["self"] (spX0 X.K C)) (hr : Room (k + 1) X.A) (hb : Binds X.K fd ["self"] []) (hm : X.mg x = some (.ref C)) (hcm : cm cl = some C) (hg : Gl X x := by rfl)
    (hdb : (x == ("__debug__" : Str)) = false := by decide) : CS cm X W (sRaise0 cl) (.Raise (some (.Call (.Name x p) [] [] pos2)) none pos) :=
  PS.weak (ps_raise hc tk (pmk_oex0 T iC tI F1 hr hb hg hm hdb)) fun D σ H ⟨B, ρ, st, G, R, h⟩ => h σ H G (.ref C) none (.refl G) R ⟨C, hcm, rfl, rfl, rfl⟩
end
section
variable {cm : Nat → Option Addr} {X : Cx} {W : WX} {pos : Pos} {b : SM} {body : List Stmt}
/-- which classes a clause catches -/
def Catch (cm : Nat → Option Addr) (K : PySem.W.Frag) (c : Value) (t : Nat → Option Bool) : Prop := ∀ cl k C, t cl = some k → cm cl = some C → PySem.W.exmOne K (.ref C) c = some k
inductive Clauses (cm : Nat → Option Addr) (X : Cx) : List ExceptHandler → List ((Nat → Option Bool) × SM) → List (Value × (Addr → Value → Option Addr → TS)) → Prop
  | nil : Clauses cm X [] [] []
  | cons {x : Str} {c : Value} {t : Nat → Option Bool} {n : SM} {b₀ : Stmt} {suite : List Stmt} {np pos' : Pos} {hds : List ExceptHandler} {l : List (Value × (Addr → Value → Option Addr → TS))} {ms : List ((Nat → Option Bool) × SM)} (hc : Names X x c) (ht : Catch cm X.K c t)
      (hsu : ∀ (a : Addr) (oe : Obj) (cls : Value) (d : Option Addr) (pn : List (Addr × Obj)), Zc cls d oe → (∃ vs, oe.data = .fields vs) → CSs cm (X.suite a ((a, oe) :: pn)) W0 n (b₀ :: suite)) (r : Clauses cm X hds ms l) :
      Clauses cm X (.ExceptHandler (some (.Name x np)) none (b₀ :: suite) pos' :: hds) ((t, n) :: ms) ((c, fun a cls d => tS (cnOf X cm) W0 n) :: l)
theorem Clauses.ok {hds : List ExceptHandler} {ms : List ((Nat → Option Bool) × SM)} {l : List (Value × (Addr → Value → Option Addr → TS))} (h : Clauses cm X hds ms l) : HdsOk X hds l := by
  induction h with
  | nil => exact .nil
  | cons hc ht hsu r ih => exact .cons hc hsu ih
theorem many_of {D : Ends} {B : Bs} {hds : List ExceptHandler} {ms : List ((Nat → Option Bool) × SM)} {l : List (Value × (Addr → Value → Option Addr → TS))} (h : Clauses cm X hds ms l) {cl : Nat} {ns : List Str} {vs : List PV} {ρ : Env} {st : Store} {σ : L2.St} {H : Hp} {G : Gh} {cls : Value} {d : Option Addr} (R : Rel (cnOf X cm) B σ ρ H st G)
    (er : ERep (cnOf X cm) G H cl ns vs cls d) (q : OutS (cnOf X cm) W B D G (handleGo ms cl ns vs ρ st)) : wMany X.K W D l cls d σ H := by
  induction h with
  | nil => exact q σ H G cls d (.refl G) R er
  | @cons x c t n b₀ suite np pos' hds l ms hc ht hsu r ih =>
    have q : OutS (cnOf X cm) W B D G (match t cl with | some true => (n ρ st).noex | some false => handleGo ms cl ns vs ρ st | none => .bad) := q
    obtain ⟨C, hcm, rfl, hd⟩ := id er
    cases e : t cl with
    | none => rw [e] at q; exact q.elim
    | some k =>
      rw [e] at q
      refine ⟨k, ht cl k C e hcm, fun hk a ha => ?_, fun hk => ?_⟩
      · subst hk
        refine ⟨B, ρ, st, G, R, ?_⟩
        have q : OutS (cnOf X cm) W B D G (n ρ st).noex := q
        cases hr : n ρ st with
        | next ρ1 st1 => rw [hr] at q; exact q
        | ret v st1 => rw [hr] at q; exact q
        | brk ρ1 st1 => rw [hr] at q; exact q
        | cnt ρ1 st1 => rw [hr] at q; exact q
        | ex a b c d e => rw [hr] at q; exact q.elim
        | bad => rw [hr] at q; exact q.elim
      · subst hk
        exact ih q
theorem try_core {B : Bs} {D : Ends} {G : Gh} {W' : WX} {ρ : Env} {st : Store} {h : Nat → List Str → List PV → Env → Store → SR} (q : OutS (cnOf X cm) W B D G (match b ρ st with | .ex cl ns vs ρ1 st1 => h cl ns vs ρ1 st1 | r => r))
    (k : ∀ cl ns vs ρ1 st1 σ1 H1 G1 cls d, Rel (cnOf X cm) B σ1 ρ1 H1 st1 G1 → ERep (cnOf X cm) G1 H1 cl ns vs cls d → OutS (cnOf X cm) W B D G1 (h cl ns vs ρ1 st1) → W' cls d σ1 H1) : OutS (cnOf X cm) W' B D G (b ρ st) := by
  cases hr : b ρ st with
  | next ρ1 st1 => rw [hr] at q; exact q
  | ret v st1 => rw [hr] at q; exact q
  | brk ρ1 st1 => rw [hr] at q; exact q
  | cnt ρ1 st1 => rw [hr] at q; exact q
  | ex cl ns vs ρ1 st1 =>
    rw [hr] at q
    exact fun σ1 H1 G1 cls d x1 R1 er => k cl ns vs ρ1 st1 σ1 H1 G1 cls d R1 er (OutS.later x1 q)
  | bad => rw [hr] at q; exact q.elim
theorem cs_try {h₀ : ExceptHandler} {hds : List ExceptHandler} {ms : List ((Nat → Option Bool) × SM)} {l : List (Value × (Addr → Value → Option Addr → TS))} (hs : X.stack = X.env :: X.outer) (hf : X.env.frame = some X.env.locals) (tk : Takes X W)
    (hb : ∀ (W' : WX) (pn : List (Addr × Obj)) (xe : Value → Shared → Prop), Takes (X.tr pn xe) W' → PassesOwn (model X.prog X.w) X.A X.env xe → CSs cm (X.tr pn xe) W' b body)
    (hh : Clauses cm X (h₀ :: hds) ms l) : CS cm X W (sTry b ms) (.Try body (h₀ :: hds) [] [] pos) :=
  PS.weak (ps_try_many (tb := fun W' => tS (cnOf X cm) W' b) hs hf tk hb hh.ok) fun D σ H ⟨B, ρ, st, G, R, q⟩ => ⟨B, ρ, st, G, R, try_core q fun cl ns vs ρ1 st1 σ1 H1 G1 cls d R1 er q1 => many_of hh R1 er q1⟩
theorem Rel.un {c : Cn} {B : Bs} {σ : L2.St} {ρ : Env} {H : Hp} {st : Store} {G : Gh} (R : Rel c B σ ρ H st G) (i : Nat) (x : Option V) : Rel c B (σ.set i x) (ρ.set i .un) H st G := by
  refine ⟨R.toSRel, R.base, by simp [R.len2], fun j sw y h1 h2 => ?_, fun j l sw sx a h1 h2 h3 h4 h5 h6 => ?_⟩
  · rcases getq_set h1 with ⟨_, _, e1⟩ | ⟨ne, g1⟩
    · subst e1
      trivial
    · rcases getq_set h2 with ⟨e, _, _⟩ | ⟨_, g2⟩
      · exact absurd e ne
      · exact R.slot j sw y g1 g2
  · rcases getq_set h1 with ⟨_, _, e1⟩ | ⟨ne1, g1⟩
    · subst e1; cases h3
    · rcases getq_set h2 with ⟨_, _, e1⟩ | ⟨ne2, g2⟩
      · subst e1; cases h4
      · rcases getq_set h5 with ⟨e, _, _⟩ | ⟨_, g5⟩
        · exact absurd e ne1
        · rcases getq_set h6 with ⟨e, _, _⟩ | ⟨_, g6⟩
          · exact absurd e ne2
          · exact R.dist j l sw sx a g1 g2 h3 h4 g5 g6
end
end BR
set_option Elab.async false
set_option linter.all false
set_option maxRecDepth 100000
namespace BR
open PySem PySem.Spec PyProof.Rows L2
open He (ba eqO eqO_ok ga ma fAd)
section
variable {K : PySem.W.Frag} {x f : Str}
theorem oexB_ok {C : Addr} (h : oexB K C = true) : ∃ nm q N bs bm sn sub ab col dd k0 k1 k2 k3 k5, K.lookup C = some (excClassObj nm q C N bs bm true sn sub ab col dd k0 k1 k2 k3 k5 "ValueError.__new__") ∧ PySem.HandSPX.refsVE bm = true := by
  unfold oexB at h
  split at h
  · rename_i t dd cd sl ho
    split at h
    · rename_i D bm k0 k1 k2 k3 n k5 hm hs
      obtain ⟨h1, h⟩ := ba h
      obtain ⟨h2, h⟩ := ba h
      obtain ⟨h3, h⟩ := ba h
      obtain ⟨h4, h⟩ := ba h
      obtain ⟨h5, h6⟩ := ba h
      have e1 := of_decide_eq_true h1
      have e2 := of_decide_eq_true h2
      have e3 := of_decide_eq_true h3
      obtain ⟨nm, bs, mro, ns, qn, hd, sn, sub, ab, col, del⟩ := cd
      have e5 : del = false := by
        cases del with
        | false => rfl
        | true => cases h5
      have e4 : hd = true := h4
      have e6 : mro = .ref D :: bm := hm
      obtain ⟨l⟩ := sl
      have e7 : l = [k0, k1, k2, k3, some (.builtin n), k5] := hs
      subst e1 e2 e3 e4 e5 e6 e7
      exact ⟨_, _, _, _, _, _, _, _, _, _, _, _, _, _, _, ho, h6⟩
    · cases h
  · cases h
theorem oex_ok (c : (Fb.oex x).ok K = true) : OexC K (ga K x) := by
  obtain ⟨c1, c⟩ := ba c
  obtain ⟨c2, c⟩ := ba c
  obtain ⟨c3, c⟩ := ba c
  obtain ⟨c4, c5⟩ := ba c
  exact ⟨oexB_ok c1, eqO_ok c2, of_decide_eq_true c3, of_decide_eq_true c4, c5⟩
theorem bex_ok (c : (Fb.bex x).ok K = true) : BexC K (ga K x) := by
  obtain ⟨c1, c⟩ := ba c
  obtain ⟨c2, c3⟩ := ba c
  refine ⟨eqO_ok c1, c2, ?_⟩
  cases e : PySem.W.findCls K (.ref (ga K x)) (.type "type") "__init__" with
  | none => rw [e] at c3; cases c3
  | some r =>
    rw [e] at c3
    cases r with
    | get a b d e => cases c3
    | val v =>
      cases v with
      | builtin b => rw [of_decide_eq_true (show decide (b = "ValueError.__init__") = true from c3)]
      | _ => cases c3
theorem ini_ok (c : (Fb.ini x).ok K = true) : PySem.W.findIn K (.ref (ga K x)) "__init__" = some (some (.ref (ma K (ga K x) "__init__"))) ∧ PySem.W.typeIn K (.ref (ma K (ga K x) "__init__")) = some (.type "function") := by
  obtain ⟨c1, c2⟩ := ba c
  exact ⟨eqO_ok c1, of_decide_eq_true c2⟩
end
theorem DD.funD {K : PySem.W.Frag} {d : DD} (e : fnWA K (d.adr K) = d.val) (c : d.ok K = true) : FunD K d.name d.qual d.params d.body d.scope [] [] (d.adr K) (fdOf K (d.adr K)) := by
  obtain ⟨kp, c2⟩ := ba c
  unfold fnWA at e
  unfold fdOf
  cases q : K.lookup (d.adr K) with
  | none =>
    rw [q] at c2
    cases c2
  | some o =>
    obtain ⟨oc, od, dt, osl⟩ := o
    rw [q] at c2 e
    cases dt with
    | func fd =>
      obtain ⟨k1, k2⟩ := ba (show (PySem.W.codeIn K fd.code d.qual && noneV fd.defaults) = true from c2)
      obtain ⟨m1, m2, m3, m4, m5, m6, m7, m8, m9, m10, m11, m12, m13, m14, m15⟩ := fd
      have e2 : (some (m1, m2, m3, m4, m5, m6, m7, m15) : He.FnW) = some (d.name, d.qual, d.params, .stmts d.body, d.scope, mainGlobals, [], builtinsNs) := e
      simp only [Option.some.injEq, Prod.mk.injEq] at e2
      obtain ⟨h1, h2, h3, h4, h5, h6, h7, h8⟩ := e2
      have k3 : m8 = .none := by
        have k2 : noneV m8 = true := k2
        cases m8 with
        | none => rfl
        | _ => cases k2
      subst h1 h2 h3 h4 h5 h6 h7 h8 k3
      exact ⟨⟨oc, od, _, m9, m10, m11, m12, m13, m14, osl, rfl, q, k1, .inl ⟨rfl, rfl⟩, .inl rfl⟩, kp⟩
    | _ => cases c2
def valB (ts : List He.Tab) (gs : List DD) (w : World) : AlB := (true, ts.map fun t => some (He.keysIn w.params t.2), gs.map DD.val)
def SaysB (fa : List He.Fa) (fb : List Fb) (ts : List He.Tab) (gs : List DD) (w : World) (K : PySem.W.Frag) : Prop := lookB fa fb ts gs K = valB ts gs w
def hookB (n : Nat) (fa : List He.Fa) (fb : List Fb) (ts : List He.Tab) (gs : List DD) : PySem.W.Hook where
  α := AlB
  obs := fun s => obsB n fa fb ts gs s.heap.get?
  val := fun w => valB ts gs w
  says := fun w h => ∃ K : PySem.W.Frag, K.In h ∧ SaysB fa fb ts gs w K
  of := fun _ _ e => ⟨_, He.frT_in, e⟩
  keeps := fun _ _ _ ⟨K, hK, c⟩ k => ⟨K, PySem.W.Frag.In.keeps hK k, c⟩
theorem obsB_eq {n : Nat} {fa : List He.Fa} {fb : List Fb} {ts : List He.Tab} {gs : List DD} {g : Addr → Option Obj} {s : Shared} (h : ∀ a, g a = s.heap.get? a) : obsB n fa fb ts gs g = (hookB n fa fb ts gs).obs s := by
  have e : g = s.heap.get? := funext h
  rw [e] <;> rfl
/-- what a law's walk leans on -/
structure Fx (fa : List He.Fa) (fb : List Fb) (ts : List He.Tab) (gs : List DD) (w : World) (K : PySem.W.Frag) (mg : Str → Option Value) : Prop where
  ex : ∃ h : Heap, K.In h ∧ h.Ns mainGlobals mg ∧ SaysB fa fb ts gs w K
section
variable {fa : List He.Fa} {fb : List Fb} {ts : List He.Tab} {gs : List DD} {w : World} {K : PySem.W.Frag} {mg : Str → Option Value}
theorem SaysB.b (c : SaysB fa fb ts gs w K) : ((fa.all fun f => f.ok K) && exB fb gs K) = true := congrArg (fun z : AlB => z.1) c
theorem SaysB.g (c : SaysB fa fb ts gs w K) : (gs.map fun d => fnWA K (d.adr K)) = gs.map DD.val := congrArg (fun z : AlB => z.2.2) c
theorem Fx.fact (F : Fx fa fb ts gs w K mg) (i : Nat) {f : He.Fa} (h : fa[i]? = some f := by rfl) : f.ok K = true := by
  obtain ⟨hp, _, _, c⟩ := F.ex
  exact List.all_eq_true.mp (ba c.b).1 f (List.mem_of_getElem? h)
theorem Fx.more (F : Fx fa fb ts gs w K mg) (i : Nat) {f : Fb} (h : fb[i]? = some f := by rfl) : f.ok K = true := by
  obtain ⟨hp, _, _, c⟩ := F.ex
  exact List.all_eq_true.mp (ba (ba c.b).2).1 f (List.mem_of_getElem? h)
theorem Fx.fn_ (F : Fx fa fb ts gs w K mg) (i : Nat) {d : DD} (h : gs[i]? = some d := by rfl) : FunD K d.name d.qual d.params d.body d.scope [] [] (d.adr K) (fdOf K (d.adr K)) := by
  obtain ⟨hp, _, _, c⟩ := F.ex
  have e2 : (gs.map fun d => fnWA K (d.adr K))[i]? = (gs.map DD.val)[i]? := by rw [c.g]
  rw [List.getElem?_map, List.getElem?_map, h] at e2
  exact DD.funD (Option.some.inj e2) (List.all_eq_true.mp (ba (ba c.b).2).2 d (List.mem_of_getElem? h))
theorem Fx.glo (F : Fx fa fb ts gs w K mg) (i : Nat) {x : Str} (h : fa[i]? = some (.glo x) := by rfl) : mg x = some (.ref (ga K x)) := by
  obtain ⟨hp, X, G, c⟩ := id F.ex
  exact He.glo_ok X G (F.fact i h)
theorem Fx.free (F : Fx fa fb ts gs w K mg) (i : Nat) {x : Str} (h : fa[i]? = some (.free x) := by rfl) : mg x = none := by
  obtain ⟨hp, X, G, c⟩ := id F.ex
  exact He.free_ok X G (F.fact i h)
theorem Fx.str (F : Fx fa fb ts gs w K mg) (i : Nat) {x z : Str} (h : fa[i]? = some (.str x z) := by rfl) : ∃ t, mg x = some (.str z t) := by
  obtain ⟨hp, X, G, c⟩ := id F.ex
  exact He.str_ok X G (F.fact i h)
theorem Fx.int (F : Fx fa fb ts gs w K mg) (i : Nat) {x : Str} {z : Int} (h : fa[i]? = some (.int x z) := by rfl) : ∃ t, mg x = some (.int z t) := by
  obtain ⟨hp, X, G, c⟩ := id F.ex
  exact He.int_ok X G (F.fact i h)
theorem Fx.cls (F : Fx fa fb ts gs w K mg) (i : Nat) {x : Str} (h : fa[i]? = some (.cls x) := by rfl) : Cls K (ga K x) := He.cls_ok (F.fact i h)
theorem Fx.exm (F : Fx fa fb ts gs w K mg) (i : Nat) {x y : Str} {b : Bool} (h : fa[i]? = some (.exm x y b) := by rfl) : PySem.W.exmOne K (.ref (ga K x)) (.ref (ga K y)) = some b := He.exm_ok (F.fact i h)
end
section
variable {P : Program} {w : World} {K : PySem.W.Frag} {mg : Str → Option Value} {base : Heap} {cm : Nat → Option Addr} {T : Nat → Option Fn} {f : Addr} {fd : FuncData} {ps : List Str} {id cl : Nat}
theorem ok_zero {k : Nat} : FnOk P w K mg base (L2.CX P w) k f fd ps (spF ⟨P, w, K, cm⟩ (runFn T 0 id)) :=
  ⟨fun vs H Q E ⟨_, _, _, _, _, h⟩ => h.elim, fun A outer s H args us vs Q E _ _ _ _ ⟨_, _, _, _, _, h⟩ => h.elim⟩
end
section
variable {cm : Nat → Option Addr} {X : Cx} {W : WX} {pos : Pos} {x : Str} {m : EM} {e : Expr}
theorem ce_gstr {z : Str} {s : List Nat} (h : ∃ t, X.mg x = some (.str z t)) (hz : z = ⟨s.toArray⟩ := by decide +kernel) (hg : Gl X x := by rfl) (hd : (x == ("__debug__" : Str)) = false := by decide) : CE cm X W (eC (.str s)) (.Name x pos) := by
  obtain ⟨t, h⟩ := h
  subst hz
  exact ce_glob hg h (v := .str ⟨s.toArray⟩) ⟨t, rfl⟩ (fun _ => .str) hd
end
end BR
set_option Elab.async false
set_option linter.all false
set_option maxRecDepth 100000
namespace BR
open PySem PySem.Spec PyProof.Rows L2
section
variable {cm : Nat → Option Addr} {X : Cx} {W : WX} {pos p p2 : Pos} {m n : EM} {e it tg : Expr} {x : Str}
theorem walks_str {c : Cn} {G : Gh} (s : List Nat) : Walks c (Its ⟨s.toArray⟩) (s.map fun k => .str [k]) G := fun i H G2 st x2 S2 => by
  refine ⟨fun q hq => ?_, fun hi => by show s.toArray.size ≤ i; simpa using Nat.le_of_eq hi⟩
  rw [List.getElem?_map] at hq
  cases e : s[i]? with
  | none => rw [e] at hq; cases hq
  | some k =>
    rw [e] at hq
    cases hq
    have hi := (List.getElem?_eq_some_iff.mp e).1
    refine ⟨by show i < s.toArray.size; simpa using hi, fun v H' y => ?_⟩
    obtain ⟨rfl, k', hk, rfl⟩ := y
    have hk : s.toArray[i]? = some k' := hk
    rw [List.getElem?_toArray, e] at hk
    cases hk
    exact ⟨G2, .refl _ _, S2, .str (s := [k])⟩
def strOf : PV → Option (List PV)
  | .str s => some (s.map fun k => .str [k])
  | _ => none
def wStr (m : EM) : AM := fun ρ st => (m ρ st).bind fun p st1 => R.ofOpt (strOf p) st1
theorem ci_str (h : CE cm X W m it) : CI cm X W (wStr m) tg it := PI.weak (pi_str h) fun σ H R ⟨B, ρ, st, G, Rl, h⟩ =>
  ⟨B, ρ, st, G, Rl, Out.bindR early_I Rl h fun p st1 H1 G1 x s1 R1 rx h1 => by
    cases rx with
    | @str s => exact ⟨_, rfl, h1 H1 G1 _ (.refl G1 H1) R1.toSRel (walks_str s)⟩
    | _ => exact h1.elim⟩
theorem ci_any (h : CE cm X W m it) : CI cm X W (wItems m) tg it := ⟨fun pins s σ H R I ⟨B, ρ, st, G, Rl, hh⟩ => by
  have key : ∀ (w : AM), w ρ st = wItems m ρ st → CI cm X W w tg it → _ := fun w e hw => hw.run pins s σ H R I ⟨B, ρ, st, G, Rl, by rw [e]; exact hh⟩
  cases e : m ρ st with
  | bad => 
    have e2 : wItems m ρ st = .bad := by unfold wItems; rw [e]; rfl
    rw [e2] at hh
    exact hh.elim
  | ex a b d f =>
    refine key (wLst m) ?_ (ci_lst h)
    unfold wLst wItems
    rw [e]
    rfl
  | ok q st1 =>
    cases q with
    | lst xs =>
      refine key (wLst m) ?_ (ci_lst h)
      unfold wLst wItems
      rw [e]
      rfl
    | tup xs =>
      refine key (wTup m) ?_ (ci_tup h)
      unfold wTup wItems
      rw [e]
      rfl
    | str z =>
      refine key (wStr m) ?_ (ci_str h)
      unfold wStr wItems
      rw [e]
      rfl
    | _ =>
      have e2 : wItems m ρ st = .bad := by unfold wItems; rw [e]; rfl
      rw [e2] at hh
      exact hh.elim⟩
theorem tyx_of {c : Cn} {G : Gh} {H : Hp} {st : Store} {v : V} {q : PV} {t : String} (S : SRel c H st G) (r : RepV c G v q) (h : tyName q = some t) : L2.TyX c.K H v (.type t) := by
  cases r with
  | non => cases h; exact .base .non
  | bl => cases h; exact .base (.bl _)
  | int => cases h; exact .base (.int _)
  | str => cases h; exact .base (.str _)
  | tup ha ra =>
    cases h
    rcases S.sqT ha with (k | ⟨o, k⟩) | ⟨o, its, n, k, e1, e2, _⟩
    · exact .base (.tup k)
    · exact .fTuple k
    · exact .kTuple k e1
  | lst ha ra => cases h; exact .base (.lst (S.lst ha))
  | _ => cases h
/-- a dict's type too -/
def TyY (X : Cx) (H : Hp) (x : V) (t : Value) : Prop := L2.TyX X.K H x t ∨ ∃ (a : Addr) (es : List DE), x = .ref a ∧ H a = some (DHO X.prog X.w a es) ∧ t = .type "dict"
theorem tyy_of {cm : Nat → Option Addr} {X : Cx} {G : Gh} {H : Hp} {st : Store} {v : V} {q : PV} {t : String} (S : SRel (cnOf X cm) H st G) (r : RepV (cnOf X cm) G v q) (h : tyNameD q = some t) : TyY X H v (.type t) := by
  cases q with
  | dct ks vs =>
    cases h
    cases r with
    | @dct a es _ _ h1 _ _ _ => exact .inr ⟨a, es, rfl, S.fzH _ _ h1, rfl⟩
  | _ => exact .inl (tyx_of S r h)
section
variable {X : Cx} {pins : List (Addr × Obj)} {σ : L2.St} {H : Hp} {s : Shared}
theorem kit_ofY {x : V} {u t : Value} (I : L2.Inv X pins σ H s) (rx : RelV x u) (ty : TyY X H x t) : ∃ P : Heap → Prop, PySem.W.KitX X.K u t P ∧ P s.heap ∧ u ≠ .builtin "__main__.__loader__#opaque" := by
  rcases ty with ty | ⟨a, es, rfl, ea, rfl⟩
  · exact L2.kit_of I rx ty
  · cases (show u = Value.ref a from rx)
    obtain ⟨⟨_, _, _, _, _, o, _, _, e, ex, _⟩, _, _⟩ := (show ObjOk X.prog X.w H s.heap a (.ext (DOn X.prog X.w a es)) from I.hok a _ ea)
    exact ⟨_, PySem.W.kitx_dict, ⟨o, e, ex.1⟩, fun z => nomatch z⟩
def rIsiY (X : Cx) : List V → Hp → VK → Prop := fun xs H Q => ∃ (x c : V) (t u : Value) (b : Bool), xs = [x, c] ∧ L2.ClsV c u ∧ TyY X H x t ∧ PySem.W.kitOne X.K t u = some b ∧ Q (.bl b) H
def rIsiTY (X : Cx) : List V → Hp → VK → Prop := fun xs H Q => ∃ (x : V) (tp : Addr) (cs : List V) (t : Value) (us : List Value) (b : Bool), xs = [x, .ref tp] ∧ H tp = some (.tup cs) ∧ Paired L2.ClsV cs us ∧ TyY X H x t ∧ PySem.W.kitAny X.K t us = some b ∧ Q (.bl b) H
theorem callY_isi : CallR X (.builtin "isinstance") (rIsiY X) := by
  intro pins s σ H xs us Q I r h
  obtain ⟨x, c, t, u, b, rfl, k, ty, e, q⟩ := h
  obtain ⟨u1, u2, rfl, r1, r2⟩ := vals2 r
  have e2 := k.eq r2
  subst e2
  obtain ⟨P, Z, p, hx⟩ := kit_ofY I r1 ty
  exact PySem.W.kia_one Z I.kIn p e hx fun tk => ⟨.bl b, H, I.tok tk, rfl, q⟩
theorem callY_isiT : CallR X (.builtin "isinstance") (rIsiTY X) := by
  intro pins s σ H xs us Q I r h
  obtain ⟨x, tp, cs, t, ws, b, rfl, hT, k, ty, e, q⟩ := h
  obtain ⟨u1, u2, rfl, r1, r2⟩ := vals2 r
  cases (show u2 = Value.ref tp from r2)
  obtain ⟨P, Z, p, hx⟩ := kit_ofY I r1 ty
  obtain ⟨_, its, rv, o, h1, h2, n, h3⟩ := (show ObjOk X.prog X.w H s.heap tp (.tup cs) from I.hok tp _ hT)
  have e3 := L2.ClsV.all k rv
  subst e3
  obtain ⟨oc, od, dt, sl⟩ := o
  simp only at h2 h3
  subst h2 h3
  exact PySem.W.kia_tup Z I.kIn p h1 e hx fun tk => ⟨.bl b, H, I.tok tk, rfl, q⟩
end
def isaAll : List String := ["NoneType", "bool", "int", "str", "tuple", "list", "dict"]
theorem isa_kit {t T : String} (h1 : t ∈ isaAll) (h2 : T ∈ ["bool", "int", "str", "tuple", "list"]) : kitB t T = some (isaB t T) := by
  have h : ∀ a ∈ isaAll, ∀ b ∈ ["bool", "int", "str", "tuple", "list"], kitB a b = some (isaB a b) := by decide +kernel
  exact h t h1 T h2
theorem tyName_in {q : PV} {t : String} (h : tyNameD q = some t) : t ∈ isaAll := by
  cases q <;> cases h <;> decide
theorem ce_isi {T : String} {x : Str} (hx : x = Str.ofString T) (hT : T ∈ ["bool", "int", "str", "tuple", "list"]) (hm : X.mg "isinstance" = none) (hmT : X.mg x = none) (hbT : bootBuiltins x = some (.type T)) (he : CE cm X W m e) (hg : Gl X "isinstance" := by rfl) (hgT : Gl X x := by rfl)
    (hn : x ≠ "__name__" := by decide) (hd : (x == ("__debug__" : Str)) = false := by decide) (hs : starEach [e, .Name x p2] X.env = (false, eval e X.env) :: starEach [.Name x p2] X.env := by rfl) (hs1 : starEach [.Name x p2] X.env = (false, eval (.Name x p2) X.env) :: starEach [] X.env := by rfl) (hpl : (backTo pos (starEach [.Name x p2] X.env)).any (·.1) = false := by rfl) :
    CE cm X W (eOp1 (pIsI [T]) m) (.Call (.Name "isinstance" p) [e, .Name x p2] [] pos) :=
  PE.weak (pe_callB callY_isi hg hm PyProof.Rows.boot_isinstance (pa_cons he (pa_cons (pe_bltn (v := .ty T) hgT hmT hbT rfl hn hd) pa_nil hs1) hs) (by decide) (by decide) hs hpl) fun σ H Q ⟨B, ρ, st, G, R, h⟩ =>
  ⟨B, ρ, st, G, R, Out.bindR early_E R h fun q st1 H1 G1 v s1 R1 rx h1 => by
    obtain ⟨z, ez, h2⟩ := out_ofOpt h1
    cases et : tyNameD q with
    | none => unfold pIsI at ez; rw [et] at ez; cases ez
    | some t =>
      unfold pIsI at ez
      rw [et] at ez
      have ez : some (PV.bl ([T].any (isaB t))) = some z := ez
      rw [List.any_cons, List.any_nil, Bool.or_false] at ez
      cases ez
      exact ⟨v, .ty T, .type t, .type T, isaB t T, rfl, .ty T, tyy_of R1.toSRel rx et, kit_ty (isa_kit (tyName_in et) hT), h2 H1 G1 _ (.refl G1 H1) R1.toSRel .bl⟩⟩
/-- isinstance(x, (T, U)) -/
theorem ce_isi2 {T U : String} {x y : Str} {kk : Nat} {p3 p4 : Pos} (hT : T ∈ ["bool", "int", "str", "tuple", "list"]) (hU : U ∈ ["bool", "int", "str", "tuple", "list"]) (hm : X.mg "isinstance" = none) (hmT : X.mg x = none) (hbT : bootBuiltins x = some (.type T)) (hmU : X.mg y = none) (hbU : bootBuiltins y = some (.type U)) (he : CE cm X W m e)
    (hg : Gl X "isinstance" := by rfl) (hgT : Gl X x := by rfl) (hgU : Gl X y := by rfl)
    (hn : x ≠ "__name__" := by decide) (hd : (x == ("__debug__" : Str)) = false := by decide) (hn2 : y ≠ "__name__" := by decide) (hd2 : (y == ("__debug__" : Str)) = false := by decide)
    (hs : starEach [e, .Tuple [.Name x p2, .Name y p3] kk p4] X.env = (false, eval e X.env) :: starEach [.Tuple [.Name x p2, .Name y p3] kk p4] X.env := by rfl) (hs1 : starEach [.Tuple [.Name x p2, .Name y p3] kk p4] X.env = (false, eval (.Tuple [.Name x p2, .Name y p3] kk p4) X.env) :: starEach [] X.env := by rfl) (hpl : (backTo pos (starEach [.Tuple [.Name x p2, .Name y p3] kk p4] X.env)).any (·.1) = false := by rfl)
    (hs2 : starEach [.Name x p2, .Name y p3] X.env = (false, eval (.Name x p2) X.env) :: starEach [.Name y p3] X.env := by rfl) (hs3 : starEach [.Name y p3] X.env = (false, eval (.Name y p3) X.env) :: starEach [] X.env := by rfl) :
    CE cm X W (eOp1 (pIsI [T, U]) m) (.Call (.Name "isinstance" p) [e, .Tuple [.Name x p2, .Name y p3] kk p4] [] pos) :=
  PE.weak (pe_callB callY_isiT hg hm PyProof.Rows.boot_isinstance (pa_cons he (pa_cons (pe_tup (pa_cons (pe_bltn (v := .ty T) hgT hmT hbT rfl hn hd) (pa_cons (pe_bltn (v := .ty U) hgU hmU hbU rfl hn2 hd2) pa_nil hs3) hs2)) pa_nil hs1) hs) (by decide) (by decide) hs hpl) fun σ H Q ⟨B, ρ, st, G, R, h⟩ =>
  ⟨B, ρ, st, G, R, Out.bindR early_E R h fun q st1 H1 G1 v s1 R1 rx h1 => by
    obtain ⟨z, ez, h2⟩ := out_ofOpt h1
    refine ⟨(by show 2 ≤ _; decide), fun tp htp => ?_⟩
    cases et : tyNameD q with
    | none => unfold pIsI at ez; rw [et] at ez; cases ez
    | some t =>
      unfold pIsI at ez
      rw [et] at ez
      have ez : some (PV.bl ([T, U].any (isaB t))) = some z := ez
      rw [List.any_cons, List.any_cons, List.any_nil, Bool.or_false] at ez
      cases ez
      obtain ⟨S2, s2⟩ := R1.toSRel.fresh (o := .tup [.ty T, .ty U]) htp
      have k1 := kit_ty (K := X.K) (isa_kit (tyName_in et) hT)
      have k2 := kit_ty (K := X.K) (isa_kit (tyName_in et) hU)
      refine ⟨v, tp, [.ty T, .ty U], .type t, [.type T, .type U], isaB t T || isaB t U, rfl, upd_same, .cons (.ty T) (.cons (.ty U) .nil), tyy_of S2 rx et, ?_, h2 _ G1 _ s2 S2 .bl⟩
      refine kitAny_cons k1 (fun e1 => ?_) fun e1 => by rw [e1]; rfl
      rw [e1, Bool.false_or]
      exact kitAny_cons k2 (fun e2 => by rw [e2]; rfl) fun e2 => e2⟩
theorem bls_rep {c : Cn} {G : Gh} : ∀ {vs : List V} {qs : List PV} {l : List Bool}, RepVs c G vs qs → bls? qs = some l → vs = l.map V.bl
  | _, _, _, .nil, h => by cases h; rfl
  | _, _, _, .cons (p := q) (ps := qs) r t, h => by
    cases r with
    | @bl i =>
      have h : (bls? qs).map (fun l => i :: l) = some _ := h
      cases e : bls? qs with
      | none => rw [e] at h; cases h
      | some l =>
        rw [e] at h
        cases h
        rw [bls_rep t e]
        rfl
    | _ => cases h
theorem map_some {α β : Type} {o : Option α} {f : α → β} {b : β} (h : o.map f = some b) : ∃ a, o = some a ∧ f a = b := by
  cases o with
  | none => cases h
  | some a => exact ⟨a, rfl, Option.some.inj h⟩
theorem rd_all {c : Cn} : RdN c (rAll c.K) nAll := by
  intro G H st vs ps z Q S r h k
  match ps, h with
  | [.lst xs], h =>
    obtain ⟨v, rfl, r1⟩ := rep1 r
    cases r1 with
    | lst ha ra =>
      obtain ⟨l, e, rfl⟩ := map_some (show (bls? xs).map (fun l => PV.bl (l.all id)) = some z from h)
      refine ⟨_, l, rfl, ?_, rd_now S .bl k⟩
      rw [← bls_rep ra e]
      exact SqL.of (S.lst ha)
abbrev sv (z : List Nat) : V := .str ⟨z.toArray⟩
end
end BR
set_option Elab.async false
set_option linter.all false
set_option maxRecDepth 100000
namespace BR
open PySem PySem.Spec PyProof.Rows L2
theorem end_walk {l : PySem.W.OpenLaw} {n k : Nat} {q : Program} {loose : List Str} {XP : (Str → Option Value) → Heap → Prop} {YP : World → Heap → Prop} {d : DefRec} {x : Str} (hn : l.most = some n) (hz : n ≤ sizeLine) (hdf : d.params.defaults = []) (hr : Room k callerA)
    (F : ∀ (w : World) (mg : Str → Option Value) (fo : Addr) (h : Heap), YP w h → h.Ns mainGlobals mg → mg d.name = some (.ref fo) → ∃ (K : PySem.W.Frag) (fd : FuncData) (sp : Sp), K.In h ∧ (∀ (s : Shared) (u : Value), BindsTo s fd ⟨[u], []⟩ [(x, u)]) ∧
      (∀ (H : Hp) (a : Addr) (ns : List Int), ns.length ≤ n → SqL K H a (ns.map V.int) → sp [.ref a] H (fun v _ => v = .bl true) fun _ _ _ => False) ∧ ∀ base : Heap, K.In base → base.Ns mainGlobals mg → FnOk l.prog w K mg base (L2.CX l.prog w) k fo fd [x] sp) :
    PySem.W.WalkO q loose XP YP l.row.toRowW d [] (fun f vs => PySem.call f vs) := by
  refine Att.attach_call hn hdf fun w s₀ s₁ mg mb fo o pm cd doc ad us ns Gt Yh ho hd hcd hmg hobj hints hlen hgen => ?_
  obtain ⟨K, fd, sp, inK, bnd, top, body⟩ := F w mg fo _ Yh Gt.T.g hmg
  refine law_call inK Gt.T.g Gt.T.b Gt.T.builtins Gt.T.nolimit hgen hobj hints (Nat.le_trans hlen hz) hr body bnd (fun H _ hS => top H ad ns hlen hS) fun H e s' z => ?_
  obtain ⟨_, _, _, _, _, _, _, _, _, _, _, _, z⟩ := z
  exact z
theorem sp_top {c : Cn} {run : List PV → Store → R SV} {H : Hp} {a : Addr} {ns : List Int} (hS : SqL c.K H a (ns.map V.int)) (h : ∃ st, run [.scr ns] [] = .ok (.val (.bl true)) st) : spF c run [.ref a] H (fun v _ => v = .bl true) fun _ _ _ => False := by
  obtain ⟨st, h⟩ := h
  refine ⟨[.scr ns], [], ⟨H, []⟩, ⟨fun _ _ e => e, fun i j b e => by simp at e, fun b hb => absurd hb List.not_mem_nil, rfl, fun i b o e => by simp at e⟩, .cons (.scr hS) .nil, ?_⟩
  rw [h]
  intro H' G' v s S rv
  cases (show RepV c G' v (.bl true) from rv)
  rfl
end BR
set_option Elab.async false
set_option linter.all false
set_option maxRecDepth 100000
namespace BR
open PySem PySem.Spec PyProof.Rows L2
section
variable {cm : Nat → Option Addr} {X : Cx} {W : WX} {pos p p2 : Pos} {m n : EM} {e it it2 tg : Expr} {x : Str}
theorem zipPV_get {xs ys : List PV} {i : Nat} {q : PV} (h : (zipPV xs ys)[i]? = some q) : ∃ a b, xs[i]? = some a ∧ ys[i]? = some b ∧ q = .wt [a, b] := by
  unfold zipPV at h
  rw [List.getElem?_map] at h
  cases e : (xs.zip ys)[i]? with
  | none => rw [e] at h; cases h
  | some z =>
    rw [e] at h
    cases h
    obtain ⟨h1, h2⟩ := List.getElem?_zip_eq_some.mp e
    exact ⟨z.1, z.2, h1, h2, rfl⟩
theorem zipPV_len (xs ys : List PV) : (zipPV xs ys).length = min xs.length ys.length := by
  unfold zipPV
  rw [List.length_map, List.length_zip]
theorem walks_zipL {c : Cn} {G : Gh} {a b : Addr} {vs ws : List V} {xs ys : List PV} (ha : G.fz a = some (.lst vs)) (ra : RepVs c G vs xs) (hb : G.fz b = some (.lst ws)) (rb : RepVs c G ws ys) : Walks c (Itz c.K a b) (zipPV xs ys) G := fun i H G2 st x2 S2 => by
  have h1 : SqL c.K H a vs := SqL.of (S2.fzH _ _ (x2.fz _ _ ha))
  have h2 : SqL c.K H b ws := SqL.of (S2.fzH _ _ (x2.fz _ _ hb))
  refine ⟨fun q hq => ?_, fun hi => ⟨vs, ws, h1, h2, ?_⟩⟩
  · obtain ⟨u, w, hu, hw, rfl⟩ := zipPV_get hq
    obtain ⟨v1, e1, r1⟩ := ra.get hu
    obtain ⟨v2, e2, r2⟩ := rb.get hw
    refine ⟨⟨vs, ws, v1, v2, h1, h2, e1, e2⟩, fun x H' ⟨T, y1, y2, ex, hT, eH, k1, k2⟩ => ?_⟩
    subst ex eH
    have q1 := k1 vs h1
    rw [e1] at q1
    cases q1
    have q2 := k2 ws h2
    rw [e2] at q2
    cases q2
    obtain ⟨S3, s3⟩ := S2.freeze (o := .tup [v1, v2]) hT
    exact ⟨_, s3, S3, new_wt S2 hT (.cons (r1.up x2) (.cons (r2.up x2) .nil))⟩
  · rw [zipPV_len, ← ra.len, ← rb.len] at hi
    omega
theorem walks_zipT {c : Cn} {G : Gh} {a b : Addr} {vs ws : List V} {xs ys : List PV} (ha : TupN G.fz a vs) (ra : RepVs c G vs xs) (hb : TupN G.fz b ws) (rb : RepVs c G ws ys) : Walks c (RZ.ItzT c.K a b) (zipPV xs ys) G := fun i H G2 st x2 S2 => by
  have h1 : SqT c.K H a vs := S2.sqT (ha.up x2.fz)
  have h2 : SqT c.K H b ws := S2.sqT (hb.up x2.fz)
  refine ⟨fun q hq => ?_, fun hi => ⟨vs, ws, h1, h2, ?_⟩⟩
  · obtain ⟨u, w, hu, hw, rfl⟩ := zipPV_get hq
    obtain ⟨v1, e1, r1⟩ := ra.get hu
    obtain ⟨v2, e2, r2⟩ := rb.get hw
    refine ⟨⟨vs, ws, v1, v2, h1, h2, e1, e2⟩, fun x H' ⟨T, y1, y2, ex, hT, eH, k1, k2⟩ => ?_⟩
    subst ex eH
    have q1 := k1 vs h1
    rw [e1] at q1
    cases q1
    have q2 := k2 ws h2
    rw [e2] at q2
    cases q2
    obtain ⟨S3, s3⟩ := S2.freeze (o := .tup [v1, v2]) hT
    exact ⟨_, s3, S3, new_wt S2 hT (.cons (r1.up x2) (.cons (r2.up x2) .nil))⟩
  · rw [zipPV_len, ← ra.len, ← rb.len] at hi
    omega
theorem ci_zip {elts : List Expr} {kk : Nat} {tpos : Pos} (hm : X.mg "zip" = none) (h : CE cm X W m it) (h2 : CE cm X W n it2) (hg : Gl X "zip" := by rfl)
    (hs : starEach [it, it2] X.env = (false, eval it X.env) :: starEach [it2] X.env := by rfl) (hpl : (backTo pos (starEach [it2] X.env)).any (·.1) = false := by rfl) (hs1 : starEach [it2] X.env = (false, eval it2 X.env) :: starEach [] X.env := by rfl) :
    CI cm X W (wZip m n) (.Tuple elts kk tpos) (.Call (.Name "zip" p) [it, it2] [] pos) :=
  PI.weak (RZ.pi_zipA hg hm (pa_cons h (pa_cons h2 pa_nil hs1) hs) hs hpl) fun σ H R ⟨B, ρ, st, G, Rl, h⟩ =>
  ⟨B, ρ, st, G, Rl, Out.bindR early_I Rl h fun q st1 H1 G1 x s1 R1 rx h1 => ⟨B, ρ, st1, G1, R1, Out.bindR early_I R1 h1 fun r st2 H2 G2 y s2 R2 ry h2 => by
    have rx2 := rx.up s2.toGExt
    cases rx2 with
    | @lst a vs xs ha ra =>
      cases ry with
      | @lst b ws ys hb rb => exact ⟨a, b, vs, ws, rfl, .inl ⟨SqL.of (R2.lst ha), SqL.of (R2.lst hb), h2 H2 G2 _ (.refl G2 H2) R2.toSRel (walks_zipL ha ra hb rb)⟩⟩
      | _ => exact h2.elim
    | @tup a vs xs ha ra =>
      cases ry with
      | @tup b ws ys hb rb => exact ⟨a, b, vs, ws, rfl, .inr ⟨R2.sqT ha, R2.sqT hb, h2 H2 G2 _ (.refl G2 H2) R2.toSRel (walks_zipT ha ra hb rb)⟩⟩
      | _ => exact h2.elim
    | _ => cases ry <;> exact h2.elim⟩⟩
end
end BR
set_option Elab.async false
set_option linter.all false
set_option maxRecDepth 100000
set_option maxHeartbeats 2000000
namespace BR
open PySem PySem.Spec PyProof.Rows L2 PySem.Builtin
abbrev tIt (x : Str) (t : Tok) : Obj := { cls := .type (strIterType x), data := .fields #[.str x t, .int 0 0] }
abbrev zA (h : Heap) (x : Str) (t : Tok) : Heap := h.push (tIt x t)
abbrev zB (h : Heap) (x y : Str) (t u : Tok) : Heap := (zA h x t).push (tIt y u)
abbrev zC (h : Heap) (x y : Str) (t u : Tok) : Heap := (zB h x y t u).push { cls := .type "tuple", data := .seq #[.ref h.objs.size, .ref (zA h x t).objs.size] }
abbrev zD (h : Heap) (x y : Str) (t u : Tok) : Heap := (zC h x y t u).push { cls := .type "tuple", data := .seq #[.none, .none] }
abbrev zE (h : Heap) (x y : Str) (t u : Tok) : Heap := (zD h x y t u).push { cls := .type "zip", data := .fields #[.none, .bool false, .bool false, .ref (zB h x y t u).objs.size, .ref (zC h x y t u).objs.size] }
theorem meets_zipS (x y : Str) (t u : Tok) : Meets (Builtin.«zip.__new__» ⟨[.type "zip", .str x t, .str y u], []⟩) (fun _ R s => R (.ok (.ret (.ref (zD s.heap x y t u).objs.size))) { s with heap := zE s.heap x y t u }) :=
  .of_wp fun prog w A R s h => by
    obtain ⟨hp, g, d, tk, os⟩ := s
    have hsub := sub_zip
    wp_walk using wpAny_pyIter_strU
    exact ⟨_, rfl, h⟩
section
variable {prog : Program} {w : World} {A : Around} {E : Value → Shared → Prop} {s : Shared}
theorem call_zipS {x y : Str} {t u : Tok} {Q : Value → Shared → Prop}
    (h : ∀ h', IsZip h' (s.heap.objs.size + 4) (s.heap.objs.size + 2) (s.heap.objs.size + 3) .none → IsTupOf2 h' (s.heap.objs.size + 2) (.ref s.heap.objs.size) (.ref (s.heap.objs.size + 1)) → IsTupOf2 h' (s.heap.objs.size + 3) .none .none →
      h'.IsStrIter s.heap.objs.size (strIterType x) x t 0 → h'.IsStrIter (s.heap.objs.size + 1) (strIterType y) y u 0 → (∀ c o, s.heap.get? c = some o → h'.get? c = some o) → Q (.ref (s.heap.objs.size + 4)) { s with heap := h' }) :
    wpAny (model prog w) A (call (.type "zip") [.str x t, .str y u]) Q E s := by
  refine callType_new F.called_zip (by decide) (F.typeCall_zip_2 _ _) (F.newCall_zip_2 _ _) (fun obj => F.args_object_init_3 obj _ _) F.entry_zip_new (meets_zipS x y t u) ?_
  have e1 : (zA s.heap x t).objs.size = s.heap.objs.size + 1 := Heap.size_push ..
  have e2 : (zB s.heap x y t u).objs.size = s.heap.objs.size + 2 := by rw [Heap.size_push, e1]
  have e3 : (zC s.heap x y t u).objs.size = s.heap.objs.size + 3 := by rw [Heap.size_push, e2]
  have e4 : (zD s.heap x y t u).objs.size = s.heap.objs.size + 4 := by rw [Heap.size_push, e3]
  have up1 : ∀ {b : Addr} {o : Obj}, (zD s.heap x y t u).get? b = some o → (zE s.heap x y t u).get? b = some o := fun q => Heap.get?_push_of_some _ q
  have up2 : ∀ {b : Addr} {o : Obj}, (zC s.heap x y t u).get? b = some o → (zE s.heap x y t u).get? b = some o := fun q => up1 (Heap.get?_push_of_some _ q)
  have up3 : ∀ {b : Addr} {o : Obj}, (zB s.heap x y t u).get? b = some o → (zE s.heap x y t u).get? b = some o := fun q => up2 (Heap.get?_push_of_some _ q)
  have up4 : ∀ {b : Addr} {o : Obj}, (zA s.heap x t).get? b = some o → (zE s.heap x y t u).get? b = some o := fun q => up3 (Heap.get?_push_of_some _ q)
  have k5 : (zE s.heap x y t u).get? (zD s.heap x y t u).objs.size = some _ := Heap.get?_push_size _ rfl
  have k4 : (zE s.heap x y t u).get? (zC s.heap x y t u).objs.size = some _ := up1 (Heap.get?_push_size _ rfl)
  have k3 : (zE s.heap x y t u).get? (zB s.heap x y t u).objs.size = some _ := up2 (Heap.get?_push_size _ rfl)
  have k2 : (zE s.heap x y t u).get? (zA s.heap x t).objs.size = some _ := up3 (Heap.get?_push_size _ rfl)
  have k1 : (zE s.heap x y t u).get? s.heap.objs.size = some _ := up4 (Heap.get?_push_size _ rfl)
  show _ ∧ _
  rw [e2, e3, e4] at k5
  rw [e1, e2] at k3
  rw [e3] at k4
  rw [e1] at k2
  rw [e4]
  exact ⟨⟨_, k5, rfl⟩, h _ k5 k3 k4 ⟨_, k1, rfl, rfl⟩ ⟨_, k2, rfl, rfl⟩ fun c o q => up4 (Heap.get?_push_of_some _ q)⟩
end
theorem draws_str {prog : Program} {w : World} {A : Around} (hh : A.handled = none) (it : Addr) (x : Str) (t : Tok) : Draws prog w A it [it] x.cps.size (fun i v => ∃ c u, x.cps[i]? = some c ∧ v = .str ⟨#[c]⟩ u) (fun i h => h.IsStrIter it (strIterType x) x t i) := by
  unfold strIterType
  cases x.cps.all (· < 128) with
  | true => exact Draws.strAscii hh it x t
  | false => exact Draws.strWide hh it x t
def ItzS (x y : Str) : It := ⟨fun i _ => i < x.cps.size ∧ i < y.cps.size, fun i H v H' => ∃ T a b, v = .ref T ∧ H T = none ∧ H' = upd H T (.tup [.str ⟨#[a]⟩, .str ⟨#[b]⟩]) ∧ x.cps[i]? = some a ∧ y.cps[i]? = some b, fun i _ => i ≤ x.cps.size ∧ i ≤ y.cps.size ∧ (i = x.cps.size ∨ i = y.cps.size)⟩
theorem turn_zipS {P : Program} {w : World} {K : PySem.W.Frag} {elts : List Expr} {kk : Nat} {tpos : Pos} {z TI TO i1 i2 : Addr} {x y : Str} {t u : Tok} (D : ZipSep2 z TI TO i1 i2 [i1] [i2]) :
    Turn P w K (.Tuple elts kk tpos) (ItzS x y) [z, TI, TO, i1, i2] z (fun i h => IsZip h z TI TO .none ∧ IsTupOf2 h TI (.ref i1) (.ref i2) ∧ (∃ a b, IsTupOf2 h TO a b) ∧ h.IsStrIter i1 (strIterType x) x t i ∧ h.IsStrIter i2 (strIterType y) y u i) where
  mem := by simp
  obj := fun i h st c hc => by
    obtain ⟨hz, hTI, ⟨a, b, hTO⟩, ⟨o1, q1, _, d1⟩, ⟨o2, q2, _, d2⟩⟩ := st
    have hc : c = z ∨ c = TI ∨ c = TO ∨ c = i1 ∨ c = i2 := by simpa using hc
    rcases hc with e | e | e | e | e
    · rw [e]; exact ⟨_, hz, fun v k => nomatch k⟩
    · rw [e]; exact ⟨_, hTI, fun v k => nomatch k⟩
    · rw [e]; exact ⟨_, hTO, fun v k => nomatch k⟩
    · rw [e]; exact ⟨o1, q1, fun v k => by rw [d1] at k; cases k⟩
    · rw [e]; exact ⟨o2, q2, fun v k => by rw [d2] at k; cases k⟩
  keep := fun i h h' st k => by
    obtain ⟨hz, hTI, ⟨a, b, hTO⟩, ⟨o1, q1, r1⟩, ⟨o2, q2, r2⟩⟩ := st
    exact ⟨k z (by simp) _ hz, k TI (by simp) _ hTI, ⟨a, b, k TO (by simp) _ hTO⟩, ⟨o1, k i1 (by simp) _ q1, r1⟩, ⟨o2, k i2 (by simp) _ q2, r2⟩⟩
  item := by
    intro X eP ew eK hc i pins s σ H E I hf st hg
    subst eP ew eK
    obtain ⟨hz, hTI, ⟨a0, b0, hTO⟩, s1, s2⟩ := st
    have hh : X.A.in1.handled = none := I.ok.hd hc
    have lz : z < s.heap.objs.size := Heap.lt_size hz
    refine wpAny_pyNext_zipD2_item D (draws_str hh i1 x t) (draws_str hh i2 y u) hz hTI hTO s1 s2 hg.1 hg.2 fun v1 v2 h' tk p1 p2 hz' hTO' t1 t2 hT hsz hk => ?_
    obtain ⟨a, ta, ha, rfl⟩ := p1
    obtain ⟨b, tb, hb, rfl⟩ := p2
    refine ⟨_, rfl, wpAny_letOwnedTupleGo_zip (s := { s with heap := h', toks := tk }) hz' fun h'' hz'' sb => ?_⟩
    have hT2 : h''.get? s.heap.objs.size = some { cls := .type "tuple", data := .seq #[.str ⟨#[a]⟩ ta, .str ⟨#[b]⟩ tb] } := (sb.2 _ (Nat.ne_of_gt lz)).trans hT
    have nw : ObjOk X.prog X.w (upd H s.heap.objs.size (.tup [.str ⟨#[a]⟩, .str ⟨#[b]⟩])) h'' s.heap.objs.size (.tup [.str ⟨#[a]⟩, .str ⟨#[b]⟩]) :=
      ⟨by show 2 ≤ sizeLine; decide, [.str ⟨#[a]⟩ ta, .str ⟨#[b]⟩ tb], .cons ⟨_, rfl⟩ (.cons ⟨_, rfl⟩ .nil), ⟨_, hT2, rfl, _, rfl⟩⟩
    have J : Inv X pins σ (upd H s.heap.objs.size (.tup [.str ⟨#[a]⟩, .str ⟨#[b]⟩])) { s with heap := h'', toks := tk } :=
      I.turnedNew (ch := [z, TI, TO, i1, i2]) (fun c o nb q => (sb.2 c (fun e => nb (by simp [e]))).trans (hk c o (fun e => nb (by simp [e])) (fun e => nb (by simp [e])) (fun e => nb (by simp [e])) (fun e => nb (by simp [e])) q)) hf (Nat.le_refl _) nw
    refine ⟨.ref s.heap.objs.size, _, J, rfl, ⟨_, a, b, rfl, I.hok.fresh (Nat.le_refl _), rfl, ha, hb⟩, ⟨hz'', ?_, ⟨.str ⟨#[a]⟩ ta, .str ⟨#[b]⟩ tb, ?_⟩, ?_, ?_⟩, fun c hcm => ?_⟩
    · exact (sb.2 _ D.TIz).trans (hk _ _ D.TIz D.TITO D.TIi1 D.TIi2 hTI)
    · exact (sb.2 _ D.TOz).trans hTO'
    · obtain ⟨o, q, r⟩ := t1
      exact ⟨o, (sb.2 _ (Ne.symm D.zi1)).trans q, r⟩
    · obtain ⟨o, q, r⟩ := t2
      exact ⟨o, (sb.2 _ (Ne.symm D.zi2)).trans q, r⟩
    · have hlt : c < s.heap.objs.size := by
        have hcm : c = z ∨ c = TI ∨ c = TO ∨ c = i1 ∨ c = i2 := by simpa using hcm
        rcases hcm with e | e | e | e | e
        · rw [e]; exact lz
        · rw [e]; exact Heap.lt_size hTI
        · rw [e]; exact Heap.lt_size hTO
        · rw [e]; obtain ⟨_, q, _⟩ := s1; exact Heap.lt_size q
        · rw [e]; obtain ⟨_, q, _⟩ := s2; exact Heap.lt_size q
      rw [upd_ne (Nat.ne_of_lt hlt)]
      exact (hf c hcm).1
  done := by
    intro X eP ew eK hc i pins s σ H E I hf st hg
    subst eP ew eK
    obtain ⟨hz, hTI, ⟨a0, b0, hTO⟩, s1, s2⟩ := st
    have hh : X.A.in1.handled = none := I.ok.hd hc
    exact wpAny_pyNext_zipD2_end D (draws_str hh i1 x t) (draws_str hh i2 y u) hz hTI hTO s1 s2 hg.1 hg.2.1 hg.2.2 fun h' tk hk => ⟨rfl, I.turnedL (t' := tk) (ch := [z, TI, TO, i1, i2]) (fun c o nb q =>
      hk c o (fun e => nb (by simp [e])) (fun e => nb (by simp [e])) (fun e => nb (by simp [e])) (fun e => nb (by simp [e])) q) hf⟩
  self := fun A i s Q E st h => wpAny_pyIter_zip st.1 h
def iZipS (ta : TA) : TI := fun σ H R => ta σ H fun vs H1 => ∃ x y, vs = [.str x, .str y] ∧ R (ItzS x y) H1
theorem pi_zipS {X : Cx} {e e2 : Expr} {ta : TA} {p pos tpos : Pos} {elts : List Expr} {kk : Nat} (hg : Gl X "zip") (hm : X.mg "zip" = none) (ha : PA X [e, e2] ta) (hst : starEach [e, e2] X.env = (false, eval e X.env) :: starEach [e2] X.env) (hpl : (backTo pos (starEach [e2] X.env)).any (·.1) = false) :
    PI X (.Tuple elts kk tpos) (.Call (.Name "zip" p) [e, e2] [] pos) (iZipS ta) := ⟨fun pins s σ H R I h => by
  refine Call_ (ld_blt I hg hm PyProof.Rows.boot_zip (PyProof.Rows.callWith_type1 (thn (ha.run pos pins s σ H _ I h) fun us s1 hu => ?_) hst hpl))
  obtain ⟨vs, H1, I1, rv, x, y, rfl, q⟩ := hu
  obtain ⟨u1, u2, rfl, ⟨t, rfl⟩, ⟨u, rfl⟩⟩ := vals2 rv
  refine call_zipS fun h' hz hTI hTO k1 k2 up => wpAny_pyIter_zip hz ?_
  have I2 : Inv X pins σ H1 { s1 with heap := h' } := I1.kept (t' := s1.toks) up
  have ne : ∀ {a b : Nat}, a < b → s1.heap.objs.size + a ≠ s1.heap.objs.size + b := fun {a b} l e => by omega
  refine ⟨s1.heap.objs.size + 4, [s1.heap.objs.size + 4, s1.heap.objs.size + 2, s1.heap.objs.size + 3, s1.heap.objs.size, s1.heap.objs.size + 1], _, _, H1, rfl, I2, turn_zipS (x := x) (y := y) (t := t) (u := u) ⟨?_, ?_, ?_, ?_, ?_, ?_, ?_, ?_, ?_, ?_, ?_, ?_, ?_⟩, ⟨hz, hTI, ⟨_, _, hTO⟩, k1, k2⟩, fun c hc => ?_, q⟩
  all_goals first
    | (simp; done)
    | (simp; omega)
    | skip
  have hle : s1.heap.objs.size ≤ c := by
    have hc : c = s1.heap.objs.size + 4 ∨ c = s1.heap.objs.size + 2 ∨ c = s1.heap.objs.size + 3 ∨ c = s1.heap.objs.size ∨ c = s1.heap.objs.size + 1 := by simpa using hc
    rcases hc with e | e | e | e | e <;> rw [e] <;> first | exact Nat.le_add_right _ _ | exact Nat.le_refl _
  exact I1.fpOk hle (I1.hok.fresh hle)⟩
def strItems (s : List Nat) : List PV := s.map fun k => .str [k]
def zipSOf : PV → PV → Option (List PV)
  | .str a, .str b => some (zipPV (strItems a) (strItems b))
  | _, _ => none
def wZipS (m n : EM) : AM := fun ρ st => (m ρ st).bind fun p st1 => (n ρ st1).bind fun q st2 => BR.R.ofOpt (zipSOf p q) st2
theorem strItems_get {s : List Nat} {i : Nat} {q : PV} (h : (strItems s)[i]? = some q) : ∃ k, s[i]? = some k ∧ q = .str [k] := by
  unfold strItems at h
  rw [List.getElem?_map] at h
  cases e : s[i]? with
  | none => rw [e] at h; cases h
  | some k => rw [e] at h; cases h; exact ⟨k, rfl, rfl⟩
theorem walks_zipS {c : Cn} {G : Gh} (a b : List Nat) : Walks c (ItzS ⟨a.toArray⟩ ⟨b.toArray⟩) (zipPV (strItems a) (strItems b)) G := fun i H G2 st x2 S2 => by
  have la : (strItems a).length = a.length := by unfold strItems; rw [List.length_map]
  have lb : (strItems b).length = b.length := by unfold strItems; rw [List.length_map]
  refine ⟨fun q hq => ?_, fun hi => ?_⟩
  · obtain ⟨u, w, hu, hw, rfl⟩ := zipPV_get hq
    obtain ⟨k, ek, rfl⟩ := strItems_get hu
    obtain ⟨l, el, rfl⟩ := strItems_get hw
    refine ⟨⟨?_, ?_⟩, fun x H' ⟨T, k', l', ex, hT, eH, f1, f2⟩ => ?_⟩
    · show i < a.toArray.size
      simpa using (List.getElem?_eq_some_iff.mp ek).1
    · show i < b.toArray.size
      simpa using (List.getElem?_eq_some_iff.mp el).1
    · subst ex eH
      have f1 : a.toArray[i]? = some k' := f1
      have f2 : b.toArray[i]? = some l' := f2
      rw [List.getElem?_toArray, ek] at f1
      rw [List.getElem?_toArray, el] at f2
      cases f1
      cases f2
      obtain ⟨S3, s3⟩ := S2.freeze (o := .tup [.str ⟨#[k]⟩, .str ⟨#[l]⟩]) hT
      exact ⟨_, s3, S3, new_wt S2 hT (.cons (.str (s := [k])) (.cons (.str (s := [l])) .nil))⟩
  · rw [zipPV_len, la, lb] at hi
    show i ≤ a.toArray.size ∧ i ≤ b.toArray.size ∧ (i = a.toArray.size ∨ i = b.toArray.size)
    simp only [List.size_toArray]
    omega
section
variable {cm : Nat → Option Addr} {X : Cx} {W : WX} {pos p tpos : Pos} {m n : EM} {it it2 : Expr} {elts : List Expr} {kk : Nat}
theorem ci_zipS (hm : X.mg "zip" = none) (h : CE cm X W m it) (h2 : CE cm X W n it2) (hg : Gl X "zip" := by rfl)
    (hs : starEach [it, it2] X.env = (false, eval it X.env) :: starEach [it2] X.env := by rfl) (hpl : (backTo pos (starEach [it2] X.env)).any (·.1) = false := by rfl) (hs1 : starEach [it2] X.env = (false, eval it2 X.env) :: starEach [] X.env := by rfl) :
    CI cm X W (wZipS m n) (.Tuple elts kk tpos) (.Call (.Name "zip" p) [it, it2] [] pos) :=
  PI.weak (pi_zipS hg hm (pa_cons h (pa_cons h2 pa_nil hs1) hs) hs hpl) fun σ H R ⟨B, ρ, st, G, Rl, h⟩ =>
  ⟨B, ρ, st, G, Rl, Out.bindR early_I Rl h fun q st1 H1 G1 x s1 R1 rx h1 => ⟨B, ρ, st1, G1, R1, Out.bindR early_I R1 h1 fun r st2 H2 G2 y s2 R2 ry h2 => by
    cases rx with
    | @str a =>
      cases ry with
      | @str b => exact ⟨_, _, rfl, h2 H2 G2 _ (.refl G2 H2) R2.toSRel (walks_zipS a b)⟩
      | _ => exact h2.elim
    | _ => cases ry <;> exact h2.elim⟩⟩
end
end BR
set_option Elab.async false
set_option linter.all false
set_option maxRecDepth 100000
set_option maxHeartbeats 2000000
namespace BR
open PySem PySem.Spec PyProof.Rows L2 PySem.Builtin
open AutoSeq1 (wpAny_loadPart')
def enumPV (k : Nat) : List PV → List PV
  | [] => []
  | x :: xs => .wt [.int k, x] :: enumPV (k + 1) xs
def wEnumT (m : EM) : AM := fun ρ st => (m ρ st).bind fun p st1 => match p with
  | .tup xs => .ok (enumPV 0 xs) st1
  | _ => .bad
end BR
set_option Elab.async false
set_option linter.all false
set_option maxRecDepth 100000
set_option maxHeartbeats 2000000
namespace BR
open PySem PySem.Spec PyProof.Rows L2
def PairS (h : Heap) (v : Value) (x : Int) (y : Str) : Prop := ∃ a o t u n, v = .ref a ∧ h.get? a = some o ∧ o.cls = .type "tuple" ∧ o.data = .seq #[.int x t, .str y u] n
theorem PairS.keeps {h h' : Heap} {v : Value} {x : Int} {y : Str} (p : PairS h v x y) (k : ∀ b o, h.get? b = some o → o.cls = .type "tuple" → h'.get? b = some o) : PairS h' v x y := by
  obtain ⟨a, o, t, u, n, e, ho, hc, hd⟩ := p
  exact ⟨a, o, t, u, n, e, k _ _ ho hc, hc, hd⟩
abbrev mkIS (p : Int × List Nat) : PV := .tup [.int p.1, .str p.2]
end BR
set_option Elab.async false
set_option linter.all false
set_option maxRecDepth 100000
set_option maxHeartbeats 2000000
namespace BR
open PySem PySem.Spec PyProof.Rows L2
def dGet (k : PV) : List PV → List PV → Option PV
  | q :: qs, v :: vs => if eqv q k then some v else dGet k qs vs
  | _, _ => none
def dPut (k v : PV) : List PV → List PV → List PV × List PV
  | q :: qs, w :: ws => if eqv q k then (q :: qs, v :: ws) else (q :: (dPut k v qs ws).1, w :: (dPut k v qs ws).2)
  | _, _ => ([k], [v])
def kok (p : PV) : Bool := (kd p).isSome
def dcGo (g : GM) (t : BM) (ek ev : EM) (ρ : Env) : List PV → List PV → List PV → Store → R PV
  | [], ks, vs, st => .ok (.dct ks vs) st
  | x :: xs, ks, vs, st => match g x ρ st with
    | none => .bad
    | some (ρ1, st1) => (t ρ1 st1).noex.bind fun b st2 => if b then (ek ρ1 st2).noex.bind fun k st3 => (ev ρ1 st3).noex.bind fun v st4 =>
        (if kok k && decide (ks.length < lim) then dcGo g t ek ev ρ xs (dPut k v ks vs).1 (dPut k v ks vs).2 st4 else .bad) else dcGo g t ek ev ρ xs ks vs st2
def eDc (w : AM) (own : List Nat) (g : GM) (t : BM) (ek ev : EM) : EM := fun ρ st => (w ρ st).bind fun xs st1 => dcGo g t ek ev (wipeE ρ own) xs [] [] st1
theorem kd_nk {p : PV} {k : NestedKey} (h : kd p = some k) : nkey p = some k ∧ k.depth ≤ 8 := by
  cases p with
  | tup xs =>
    have h : (nkeys xs).bind (fun ks => if NestedKey.depthAll ks < 8 then some (NestedKey.tup ks) else none) = some k := h
    cases e : nkeys xs with
    | none => rw [e] at h; cases h
    | some ks =>
      rw [e] at h
      have h : (if NestedKey.depthAll ks < 8 then some (NestedKey.tup ks) else none) = some k := h
      by_cases hl : NestedKey.depthAll ks < 8
      · rw [if_pos hl] at h
        cases h
        exact ⟨by show (nkeys xs).map NestedKey.tup = _; rw [e]; rfl, hl⟩
      · rw [if_neg hl] at h
        cases h
  | _ => cases h
mutual
theorem nk_eqv : ∀ (p q : PV) (a b : NestedKey), nkey p = some a → nkey q = some b → (eqv p q = true ↔ a = b)
  | .non, q, a, b, h1, h2 => by
    cases h1
    cases q <;> first | (cases h2; done) | (cases h2; simp [eqv]; done) | skip
    case tup ys =>
      obtain ⟨ks, _, rfl⟩ := map_some (show (nkeys ys).map NestedKey.tup = some b from h2)
      simp [eqv]
  | .int i, q, a, b, h1, h2 => by
    cases h1
    cases q <;> first | (cases h2; done) | (cases h2; simp [eqv]; done) | skip
    case tup ys =>
      obtain ⟨ks, _, rfl⟩ := map_some (show (nkeys ys).map NestedKey.tup = some b from h2)
      simp [eqv]
  | .str s, q, a, b, h1, h2 => by
    cases h1
    cases q <;> first | (cases h2; done) | (cases h2; simp [eqv]; done) | skip
    case tup ys =>
      obtain ⟨ks, _, rfl⟩ := map_some (show (nkeys ys).map NestedKey.tup = some b from h2)
      simp [eqv]
  | .tup xs, q, a, b, h1, h2 => by
    obtain ⟨js, e1, rfl⟩ := map_some (show (nkeys xs).map NestedKey.tup = some a from h1)
    cases q <;> first | (cases h2; done) | (cases h2; simp [eqv]; done) | skip
    case tup ys =>
      obtain ⟨ks, e2, rfl⟩ := map_some (show (nkeys ys).map NestedKey.tup = some b from h2)
      show eqvs xs ys = true ↔ _
      rw [nks_eqv xs ys js ks e1 e2]
      simp
  | .bl _, _, _, _, h1, _ => by cases h1
  | .lst _, _, _, _, h1, _ => by cases h1
  | .dct _ _, _, _, _, h1, _ => by cases h1
  | .ins _ _ _, _, _, _, h1, _ => by cases h1
  | .scr _, _, _, _, h1, _ => by cases h1
  | .wt _, _, _, _, h1, _ => by cases h1
  | .ref _, _, _, _, h1, _ => by cases h1
theorem nks_eqv : ∀ (ps qs : List PV) (as bs : List NestedKey), nkeys ps = some as → nkeys qs = some bs → (eqvs ps qs = true ↔ as = bs)
  | [], [], as, bs, h1, h2 => by cases h1; cases h2; simp [eqvs]
  | [], q :: qs, as, bs, h1, h2 => by
    cases h1
    have h2 : (nkey q).bind (fun k => (nkeys qs).map fun ks => k :: ks) = some bs := h2
    cases e : nkey q with
    | none => rw [e] at h2; cases h2
    | some k =>
      rw [e] at h2
      obtain ⟨ks, _, rfl⟩ := map_some (show (nkeys qs).map (fun ks => k :: ks) = some bs from h2)
      simp [eqvs]
  | p :: ps, [], as, bs, h1, h2 => by
    cases h2
    have h1 : (nkey p).bind (fun k => (nkeys ps).map fun ks => k :: ks) = some as := h1
    cases e : nkey p with
    | none => rw [e] at h1; cases h1
    | some k =>
      rw [e] at h1
      obtain ⟨ks, _, rfl⟩ := map_some (show (nkeys ps).map (fun ks => k :: ks) = some as from h1)
      simp [eqvs]
  | p :: ps, q :: qs, as, bs, h1, h2 => by
    have h1 : (nkey p).bind (fun k => (nkeys ps).map fun ks => k :: ks) = some as := h1
    have h2 : (nkey q).bind (fun k => (nkeys qs).map fun ks => k :: ks) = some bs := h2
    cases e : nkey p with
    | none => rw [e] at h1; cases h1
    | some k =>
      cases e2 : nkey q with
      | none => rw [e2] at h2; cases h2
      | some j =>
        rw [e] at h1
        rw [e2] at h2
        obtain ⟨ks, e3, rfl⟩ := map_some (show (nkeys ps).map (fun ks => k :: ks) = some as from h1)
        obtain ⟨js, e4, rfl⟩ := map_some (show (nkeys qs).map (fun ks => j :: ks) = some bs from h2)
        show (eqv p q && eqvs ps qs) = true ↔ _
        rw [Bool.and_eq_true, nk_eqv p q k j e e2, nks_eqv ps qs ks js e3 e4]
        simp
end
theorem kd_eqv {p q : PV} {a b : NestedKey} (h1 : kd p = some a) (h2 : kd q = some b) : eqv p q = decide (a = b) := by
  have z := nk_eqv p q a b (kd_nk h1).1 (kd_nk h2).1
  by_cases e : a = b
  · rw [decide_eq_true e]
    exact z.mpr e
  · rw [decide_eq_false e]
    exact Bool.eq_false_iff.mpr fun y => e (z.mp y)
theorem sqT_ok {P : Program} {w : World} {K : PySem.W.Frag} {H : Hp} {h : Heap} {a : Addr} {xs : List V} (ok : HOk P w H h) (kin : K.In h) (q : SqT K H a xs) : ∃ its : List Value, Vals xs its ∧ IsTup h a its.toArray := by
  rcases q with q | ⟨o, its, n, hk, hc, hs, hz, r⟩
  · obtain ⟨z, its, r, p⟩ := q.ok ok
    exact ⟨its, r, p⟩
  · exact ⟨its.toList, r, ⟨o, kin a o hk, hc, n, by simpa using hs⟩⟩
section
variable {c : Cn} {H : Hp} {h : Heap} {st : Store} {G : Gh}
mutual
/-- a value that is a key is one in every heap that is described so -/
theorem nk_is (ok : HOk c.P c.w H h) (kin : c.K.In h) (S : SRel c H st G) : ∀ (p : PV) (v : V) (u : Value) (k : NestedKey), RepV c G v p → nkey p = some k → RelV v u → NestedIs h k u
  | .non, _, u, k, r, e, y => by
    cases r
    cases e
    cases (show u = Value.none from y)
    exact .none
  | .int i, _, u, k, r, e, y => by
    cases r
    cases e
    obtain ⟨t, rfl⟩ := (show ∃ t, u = Value.int i t from y)
    exact .int _ _
  | .str z, _, u, k, r, e, y => by
    cases r
    cases e
    obtain ⟨t, rfl⟩ := (show ∃ t, u = Value.str ⟨z.toArray⟩ t from y)
    exact .text _ _
  | .tup xs, _, u, k, r, e, y => by
    cases r with
    | @tup a vs _ h1 h2 =>
      obtain ⟨ks, e1, rfl⟩ := map_some (show (nkeys xs).map NestedKey.tup = some k from e)
      obtain ⟨its, rv, o, ho, hc, n, hd⟩ := sqT_ok ok kin (S.sqT h1)
      cases (show u = Value.ref a from y)
      exact .tup ho hc hd (by simpa using nks_is ok kin S xs _ its ks h2 e1 rv)
  | .bl _, _, _, _, _, e, _ => by cases e
  | .lst _, _, _, _, _, e, _ => by cases e
  | .dct _ _, _, _, _, _, e, _ => by cases e
  | .ins _ _ _, _, _, _, _, e, _ => by cases e
  | .scr _, _, _, _, _, e, _ => by cases e
  | .wt _, _, _, _, _, e, _ => by cases e
  | .ref _, _, _, _, _, e, _ => by cases e
theorem nks_is (ok : HOk c.P c.w H h) (kin : c.K.In h) (S : SRel c H st G) : ∀ (ps : List PV) (vs : List V) (us : List Value) (ks : List NestedKey), RepVs c G vs ps → nkeys ps = some ks → Vals vs us → NestedAll h ks us
  | [], _, us, ks, r, e, y => by
    cases r
    cases e
    cases y
    exact .nil
  | p :: ps, _, us, ks, r, e, y => by
    cases r with
    | cons r1 r2 =>
      have e : (nkey p).bind (fun k => (nkeys ps).map fun ks => k :: ks) = some ks := e
      cases e1 : nkey p with
      | none => rw [e1] at e; cases e
      | some k =>
        rw [e1] at e
        obtain ⟨js, e2, rfl⟩ := map_some (show (nkeys ps).map (fun ks => k :: ks) = some ks from e)
        cases y with
        | cons y1 y2 => exact .cons (nk_is ok kin S p _ _ k r1 e1 y1) (nks_is ok kin S ps _ _ js r2 e2 y2)
end
end
/-- at a stands the key k, in every heap that is described so -/
def KeyH (P : Program) (w : World) (K : PySem.W.Frag) (H : Hp) (k : NestedKey) (a : Addr) : Prop := ∀ h : Heap, HOk P w H h → K.In h → (nestedKind P w).is h k a
theorem keyH_of {c : Cn} {H : Hp} {st : Store} {G : Gh} {a : Addr} {p : PV} {k : NestedKey} (S : SRel c H st G) (r : RepV c G (.ref a) p) (e : kd p = some k) : KeyH c.P c.w c.K H k a := fun h ok kin =>
  ⟨nk_is ok kin S p _ (.ref a) k r (kd_nk e).1 rfl, (kd_nk e).2⟩
theorem keysH_of {c : Cn} {H : Hp} {st : Store} {G : Gh} (S : SRel c H st G) : ∀ {es : List DE} {ks : List PV}, ks.map kd = es.map (fun e => some e.1) → RepVs c G (es.map fun e => V.ref e.2.1) ks → ∀ e ∈ es, KeyH c.P c.w c.K H e.1 e.2.1
  | [], _, _, _, e, he => absurd he List.not_mem_nil
  | e0 :: es, [], h, _, _, _ => by simp at h
  | e0 :: es, k :: ks, h, r, e, he => by
    rw [List.map_cons, List.map_cons] at h
    cases r with
    | cons r1 r2 =>
      rcases List.mem_cons.mp he with rfl | he
      · exact keyH_of S r1 (List.cons.inj h).1
      · exact keysH_of S (List.cons.inj h).2 r2 e he
theorem paired_mem {α β : Type} {F : α → β → Prop} : ∀ {l : List α} {m : List β}, Paired F l m → ∀ x ∈ m, ∃ e ∈ l, F e x
  | _, _, .nil, x, hx => absurd hx List.not_mem_nil
  | _, _, .cons h t, x, hx => by
    rcases List.mem_cons.mp hx with rfl | hx
    · exact ⟨_, List.mem_cons_self .., h⟩
    · obtain ⟨e, he, q⟩ := paired_mem t x hx
      exact ⟨e, List.mem_cons_of_mem _ he, q⟩
theorem deok_keys : ∀ {es : List DE} {xs : List (NestedKey × Addr × Value)}, Paired DEOk es xs → es.map (fun e => e.1) = xs.map (fun x => x.1)
  | _, _, .nil => rfl
  | _, _, .cons h t => by rw [List.map_cons, List.map_cons, h.1, deok_keys t]
def stE (es : List DE) (k : NestedKey) (b : Addr) (v : V) : List DE := if (es.any fun e => decide (e.1 = k)) = true then es.map (fun e => if e.1 = k then (e.1, e.2.1, v) else e) else es ++ [(k, b, v)]
theorem deok_any {k : NestedKey} : ∀ {es : List DE} {xs : List (NestedKey × Addr × Value)}, Paired DEOk es xs → (es.any fun e => decide (e.1 = k)) = (atKey xs k).isSome
  | _, _, .nil => rfl
  | _, _, .cons (a := e) (b := x) h t => by
    rw [List.any_cons, deok_any t]
    by_cases q : x.1 = k
    · rw [h.1, decide_eq_true q, Bool.true_or]
      simp [atKey, List.find?_cons, q]
    · rw [h.1, decide_eq_false q, Bool.false_or]
      simp [atKey, List.find?_cons, q]
theorem deok_repl {k : NestedKey} {v : V} {u : Value} (rv : RelV v u) : ∀ {es : List DE} {xs : List (NestedKey × Addr × Value)}, Paired DEOk es xs → Paired DEOk (es.map fun e => if e.1 = k then (e.1, e.2.1, v) else e) (xs.map (PySem.putAt k u))
  | _, _, .nil => .nil
  | _, _, .cons (a := e) (b := x) h t => by
    rw [List.map_cons, List.map_cons]
    refine .cons ?_ (deok_repl rv t)
    unfold PySem.putAt
    by_cases q : x.1 = k
    · rw [if_pos q, if_pos (h.1.trans q)]
      exact ⟨h.1, h.2.1, rv⟩
    · rw [if_neg q, if_neg (fun z => q (h.1.symm.trans z))]
      exact h
theorem deok_put {k : NestedKey} {b : Addr} {v : V} {u : Value} {es : List DE} {xs : List (NestedKey × Addr × Value)} (rv : RelV v u) (r : Paired DEOk es xs) : Paired DEOk (stE es k b v) (storedH xs k b u) := by
  unfold stE storedH
  rw [deok_any r]
  by_cases q : (atKey xs k).isSome = true
  · rw [if_pos q, if_pos q]
    exact deok_repl rv r
  · rw [if_neg q, if_neg q]
    exact Paired.snoc r ⟨rfl, rfl, rv⟩
theorem deok_val {k : NestedKey} : ∀ {es : List DE} {xs : List (NestedKey × Addr × Value)}, Paired DEOk es xs → ∀ {v : V}, ((es.find? fun e => decide (e.1 = k)).map fun e => e.2.2) = some v → ∃ p, atKey xs k = some p ∧ RelV v p.2
  | _, _, .nil, v, h => by cases h
  | _, _, .cons (a := e) (b := x) h t, v, q => by
    by_cases z : x.1 = k
    · rw [List.find?_cons, decide_eq_true (h.1.trans z)] at q
      cases q
      exact ⟨x.2, by simp [atKey, List.find?_cons, z], h.2.2⟩
    · rw [List.find?_cons, decide_eq_false (fun y => z (h.1.symm.trans y))] at q
      obtain ⟨p, e1, e2⟩ := deok_val t q
      exact ⟨p, by unfold atKey at e1 ⊢; rw [List.find?_cons, decide_eq_false z]; exact e1, e2⟩
theorem deok_none {k : NestedKey} : ∀ {es : List DE} {xs : List (NestedKey × Addr × Value)}, Paired DEOk es xs → (es.find? fun e => decide (e.1 = k)) = none → atKey xs k = none
  | _, _, .nil, h => rfl
  | _, _, .cons (a := e) (b := x) h t, q => by
    by_cases z : x.1 = k
    · rw [List.find?_cons, decide_eq_true (h.1.trans z)] at q
      cases q
    · rw [List.find?_cons, decide_eq_false (fun y => z (h.1.symm.trans y))] at q
      have e1 := deok_none t q
      unfold atKey at e1 ⊢
      rw [List.find?_cons, decide_eq_false z]
      exact e1
theorem stE_cons {e : DE} {es : List DE} {k : NestedKey} {b : Addr} {v : V} (nd : ((e :: es).map fun e => e.1).Nodup) : stE (e :: es) k b v = if e.1 = k then (e.1, e.2.1, v) :: es else e :: stE es k b v := by
  rw [List.map_cons, List.nodup_cons] at nd
  unfold stE
  by_cases q : e.1 = k
  · rw [if_pos q, List.any_cons, decide_eq_true q, Bool.true_or, if_pos rfl, List.map_cons, if_pos q]
    congr 1
    have : ∀ x ∈ es, (if x.1 = k then (x.1, x.2.1, v) else x) = x := fun x hx => if_neg fun z => nd.1 (List.mem_map.mpr ⟨x, hx, z.trans q.symm⟩)
    rw [List.map_congr_left this, List.map_id']
  · rw [if_neg q, List.any_cons, decide_eq_false q, Bool.false_or]
    by_cases a : (es.any fun e => decide (e.1 = k)) = true
    · rw [if_pos a, if_pos a, List.map_cons, if_neg q]
    · rw [if_neg a, if_neg a, List.cons_append]
theorem stE_nodup {k : NestedKey} {b : Addr} {v : V} : ∀ {es : List DE}, (es.map fun e => e.1).Nodup → ((stE es k b v).map fun e => e.1).Nodup := fun {es} nd => by
  unfold stE
  by_cases a : (es.any fun e => decide (e.1 = k)) = true
  · rw [if_pos a, List.map_map]
    have : (es.map ((fun e : DE => e.1) ∘ fun e => if e.1 = k then (e.1, e.2.1, v) else e)) = es.map fun e => e.1 := List.map_congr_left fun x _ => by
      show (if x.1 = k then (x.1, x.2.1, v) else x).1 = x.1
      split <;> rfl
    rw [this]
    exact nd
  · rw [if_neg a, List.map_append]
    refine List.nodup_append.mpr ⟨nd, by simp, fun x hx y hy => ?_⟩
    simp only [List.map_cons, List.map_nil, List.mem_singleton] at hy
    subst hy
    rintro rfl
    obtain ⟨e, he, q⟩ := List.mem_map.mp hx
    exact a (List.any_eq_true.mpr ⟨e, he, decide_eq_true q⟩)
theorem stE_len {es : List DE} {k : NestedKey} {b : Addr} {v : V} : (stE es k b v).length ≤ es.length + 1 := by
  unfold stE
  split
  · rw [List.length_map]; omega
  · rw [List.length_append]; simp
/-- the evaluator's entries follow -/
theorem dput_rep {c : Cn} {G : Gh} {p q : PV} {k : NestedKey} {b : Addr} {v : V} (ek : kd p = some k) (rk : RepV c G (.ref b) p) (rv : RepV c G v q) : ∀ {es : List DE} {ks vs : List PV}, (es.map fun e => e.1).Nodup → ks.map kd = es.map (fun e => some e.1) →
    RepVs c G (es.map fun e => V.ref e.2.1) ks → RepVs c G (es.map fun e => e.2.2) vs →
    (dPut p q ks vs).1.map kd = (stE es k b v).map (fun e => some e.1) ∧ RepVs c G ((stE es k b v).map fun e => V.ref e.2.1) (dPut p q ks vs).1 ∧ RepVs c G ((stE es k b v).map fun e => e.2.2) (dPut p q ks vs).2
  | [], [], [], _, _, _, _ => ⟨by simp [dPut, stE, ek], .cons rk .nil, .cons rv .nil⟩
  | [], _ :: _, _, _, h, _, _ => by simp at h
  | [], [], _ :: _, _, _, _, r => by cases r
  | e :: es, [], _, _, h, _, _ => by simp at h
  | e :: es, _ :: _, [], _, _, _, r => by cases r
  | e :: es, p0 :: ks, q0 :: vs, nd, h, r1, r2 => by
    rw [List.map_cons, List.map_cons] at h
    obtain ⟨h1, h2⟩ := List.cons.inj h
    cases r1 with
    | cons a1 a2 =>
      cases r2 with
      | cons b1 b2 =>
        rw [stE_cons nd]
        have z : eqv p0 p = decide (e.1 = k) := kd_eqv h1 ek
        by_cases y : e.1 = k
        · rw [if_pos y]
          have : dPut p q (p0 :: ks) (q0 :: vs) = (p0 :: ks, q :: vs) := by
            show (if eqv p0 p then _ else _) = _
            rw [z, decide_eq_true y, if_pos rfl]
          rw [this]
          exact ⟨by simp [h1, h2], .cons a1 a2, .cons rv b2⟩
        · rw [if_neg y]
          have : dPut p q (p0 :: ks) (q0 :: vs) = (p0 :: (dPut p q ks vs).1, q0 :: (dPut p q ks vs).2) := by
            show (if eqv p0 p then _ else _) = _
            rw [z, decide_eq_false y]
            rfl
          rw [this]
          obtain ⟨i1, i2, i3⟩ := dput_rep ek rk rv (List.nodup_cons.mp nd).2 h2 a2 b2
          exact ⟨by simp [h1, i1], .cons a1 i2, .cons b1 i3⟩
theorem dget_rep {c : Cn} {G : Gh} {p : PV} {k : NestedKey} (ek : kd p = some k) : ∀ {es : List DE} {ks vs : List PV}, ks.map kd = es.map (fun e => some e.1) → RepVs c G (es.map fun e => e.2.2) vs →
    (∀ q, dGet p ks vs = some q → ∃ v, ((es.find? fun e => decide (e.1 = k)).map fun e => e.2.2) = some v ∧ RepV c G v q) ∧ (dGet p ks vs = none → (es.find? fun e => decide (e.1 = k)) = none)
  | [], [], [], _, _ => ⟨fun q h => (by cases h), fun _ => rfl⟩
  | [], _ :: _, _, h, _ => by simp at h
  | [], [], _ :: _, _, r => by cases r
  | e :: es, [], _, h, _ => by simp at h
  | e :: es, _ :: _, [], _, r => by cases r
  | e :: es, p0 :: ks, q0 :: vs, h, r2 => by
    rw [List.map_cons, List.map_cons] at h
    obtain ⟨h1, h2⟩ := List.cons.inj h
    cases r2 with
    | cons b1 b2 =>
      have z : eqv p0 p = decide (e.1 = k) := kd_eqv h1 ek
      have d : dGet p (p0 :: ks) (q0 :: vs) = if decide (e.1 = k) = true then some q0 else dGet p ks vs := by
        show (if eqv p0 p = true then _ else _) = _
        rw [z]
      rw [d]
      by_cases y : e.1 = k
      · rw [decide_eq_true y, if_pos rfl, List.find?_cons, decide_eq_true y]
        exact ⟨fun q hq => (by cases hq; exact ⟨_, rfl, b1⟩), fun hq => (by cases hq)⟩
      · rw [decide_eq_false y, if_neg Bool.false_ne_true, List.find?_cons, decide_eq_false y]
        exact dget_rep ek h2 b2
end BR
set_option Elab.async false
set_option linter.all false
set_option maxRecDepth 100000
set_option maxHeartbeats 4000000
namespace BR
open PySem PySem.Spec PyProof.Rows L2
section
variable {P : Program} {w : World} {K : PySem.W.Frag} {H : Hp} {h : Heap} {a : Addr} {es : List DE}
theorem don_of {X : Cx} {pins : List (Addr × Obj)} {σ : L2.St} {s : Shared} (I : Inv X pins σ H s) (ha : H a = some (DHO X.prog X.w a es)) : DOn X.prog X.w a es s.heap := (show ObjOk X.prog X.w H s.heap a (.ext (DOn X.prog X.w a es)) from I.hok a _ ha).1
theorem don_ok (d : DOn P w a es h) : ObjOk P w H h a (DHO P w a es) := by
  refine ⟨d, ?_, fun h1 h2 x k => ?_⟩
  · obtain ⟨_, _, _, _, _, o, _, _, ho, _⟩ := d
    exact ⟨o, ho⟩
  · obtain ⟨q1, q2, q3, xs, q4, o, tab, ep, ho, r⟩ := x
    exact ⟨q1, q2, q3, xs, q4, o, tab, ep, k o ho, r⟩
theorem don_dict (d : DOn P w a es h) (ks : ∀ e ∈ es, (nestedKind P w).is h e.1 e.2.1) : ∃ xs : List (NestedKey × Addr × Value), Paired DEOk es xs ∧ h.DictOfH (nestedKind P w) a xs := by
  obtain ⟨_, _, nd, xs, r, o, tab, ep, ho, hx, hd, he⟩ := d
  refine ⟨xs, r, o, tab, ep, ho, hx, hd, he, fun x hx => ?_, ?_⟩
  · obtain ⟨e, hm, q⟩ := paired_mem r x hx
    have z := ks e hm
    rw [q.1, q.2.1] at z
    exact z
  · rw [← deok_keys r]
    exact nd
theorem don_make (hs : (a == sysModules) = false) (hl : es.length ≤ sizeLine) {xs : List (NestedKey × Addr × Value)} (r : Paired DEOk es xs) (d : h.DictOfH (nestedKind P w) a xs) : DOn P w a es h := by
  obtain ⟨o, tab, ep, ho, hx, hd, he, _, nd⟩ := d
  exact ⟨hs, hl, by rw [deok_keys r]; exact nd, xs, r, o, tab, ep, ho, hx, hd, he⟩
theorem don_type {s : Shared} (d : DOn P w a es s.heap) : s.TypeIs (.ref a) "dict" ∧ (∀ b, Value.ref a = .ref b → ∃ ob, s.heap.get? b = some ob ∧ ob.dict = none) := by
  obtain ⟨_, _, _, _, _, o, _, _, ho, hx, _⟩ := d
  refine ⟨⟨o, ho, hx.1⟩, fun b e => ?_⟩
  cases e
  exact ⟨o, ho, hx.2.1⟩
theorem room8 {A : Around} (hu : A.units + 64 < cLine) : (nestedKind P w).room A ∧ (nestedKind P w).room A.in1 ∧ (nestedKind P w).room A.in1.in1 := ⟨by show A.units + 8 < _; omega, by show A.units + 1 + 8 < _; omega, by show A.units + 1 + 1 + 8 < _; omega⟩
end
/-- at a stands the dict es, its keys are keys -/
def DAt (X : Cx) (H : Hp) (a : Addr) (es : List DE) : Prop := H a = some (DHO X.prog X.w a es) ∧ ∀ e ∈ es, KeyH X.prog X.w X.K H e.1 e.2.1
theorem dat_of {X : Cx} {pins : List (Addr × Obj)} {σ : L2.St} {H : Hp} {s : Shared} {a : Addr} {es : List DE} (I : Inv X pins σ H s) (d : DAt X H a es) : DOn X.prog X.w a es s.heap ∧ ∃ xs : List (NestedKey × Addr × Value), Paired DEOk es xs ∧ s.heap.DictOfH (nestedKind X.prog X.w) a xs :=
  ⟨don_of I d.1, don_dict (don_of I d.1) fun e he => d.2 e he _ I.hok I.kIn⟩
def vAt (es : List DE) (k : NestedKey) : Option V := (es.find? fun e => decide (e.1 = k)).map fun e => e.2.2
theorem vat_rel {es : List DE} {xs : List (NestedKey × Addr × Value)} {k : NestedKey} {z : V} {u : Value} (r : Paired DEOk es xs) (rz : RelV z u) : RelV ((vAt es k).getD z) (((atKey xs k).map (·.2)).getD u) := by
  cases e : vAt es k with
  | none =>
    have q : (es.find? fun e => decide (e.1 = k)) = none := by
      unfold vAt at e
      exact Option.map_eq_none_iff.mp e
    rw [deok_none r q]
    exact rz
  | some v =>
    obtain ⟨p, e1, e2⟩ := deok_val r e
    rw [e1]
    exact e2
section
variable {X : Cx} {o e f i : Expr} {apos cpos pos : Pos} {td ty tx : TE}
def tGetN (X : Cx) (td ty tx : TE) : TE := fun σ H Q => td σ H fun x H1 => ∃ a es, x = .ref a ∧ DAt X H1 a es ∧ ty σ H1 fun y H2 => tx σ H2 fun z H3 => ∃ b k es, y = .ref b ∧ DAt X H3 a es ∧ KeyH X.prog X.w X.K H3 k b ∧ Q ((vAt es k).getD z) H3
theorem pe_getN (hu : X.A.units + 64 < cLine) (ho : PE X o td) (he : PE X e ty) (hf : PE X f tx) (m : M2 X o "get" apos e f cpos) : PE X (.Call (.Attribute o "get" apos) [e, f] [] cpos) (tGetN X td ty tx) := by
  refine ⟨fun pins s σ H Q I h => wpAny_Call_method m.base m.few m.line PySem.F.plainAttrs_dict PySem.F.slot_dict_get PySem.F.type_dict_get (thn (ho.run pins s σ H _ I h) fun u s1 q0 => ?_)⟩
  obtain ⟨x, H1, I1, rx, a, es1, ex, d1, q1⟩ := q0
  subst ex
  cases (show u = Value.ref a from rx)
  refine ⟨(don_type (don_of I1 d1.1)).1, (don_type (don_of I1 d1.1)).2, ?_⟩
  rw [m.trees]
  refine Calls.callWith_builtin rfl (Calls.evalArgs_plain (Calls.spliced_cons (thn (he.run pins s1 σ H1 _ I1 q1) fun iv s2 q2 => ?_)))
  obtain ⟨y, H2, I2, ry, q2⟩ := q2
  refine Calls.spliced_cons (thn (hf.run pins s2 σ H2 _ I2 q2) fun fv s3 q3 => Calls.spliced_nil ?_)
  obtain ⟨z, H3, I3, rz, b, k, es, ey, d, hk, q3⟩ := q3
  subst ey
  cases (show iv = Value.ref b from ry)
  obtain ⟨dn, xs, r, dd⟩ := dat_of I3 d
  exact call_meetsIn PySem.F.slot_dict_get dd.typeIs PySem.F.entry_dict_get (PySem.F.args_dict_get_3 _ _ _) (meetsH_dict_get_default (nestedKind X.prog X.w) a b dn.1 fv) ⟨(room8 hu).2.1, k, xs, hk _ I3.hok I3.kIn, dd, _, H3, I3.tok _, vat_rel r rz, q3⟩
def tIxN (X : Cx) (td ty : TE) : TE := fun σ H Q => td σ H fun x H1 => ty σ H1 fun y H2 => ∃ a b k es v, x = .ref a ∧ y = .ref b ∧ DAt X H2 a es ∧ KeyH X.prog X.w X.K H2 k b ∧ vAt es k = some v ∧ Q v H2
theorem pe_ixN (hu : X.A.units + 64 < cLine) (ho : PE X o td) (hi : PE X i ty) (hs : NoSl i) : PE X (.Subscript o i pos) (tIxN X td ty) := by
  refine ⟨fun pins s σ H Q I h => subD_of PySem.F.slot_dict_getitem.lookup hs (thn (ho.run pins s σ H _ I h) fun u s1 q0 => ?_)⟩
  obtain ⟨x, H1, I1, rx, q1⟩ := q0
  refine thn (hi.run pins s1 σ H1 _ I1 q1) fun iv s2 q2 => ?_
  obtain ⟨y, H2, I2, ry, a, b, k, es, v, ex, ey, d, hk, ev, q2⟩ := q2
  subst ex ey
  cases (show u = Value.ref a from rx)
  cases (show iv = Value.ref b from ry)
  obtain ⟨dn, xs, r, dd⟩ := dat_of I2 d
  obtain ⟨p, e1, e2⟩ := deok_val r ev
  exact ⟨(don_type dn).1, wpAny_getItem_heap (room8 hu).2.1 (hk _ I2.hok I2.kIn) dd e1 ⟨v, H2, I2.tok _, e2, q2⟩⟩
end
/-- the evaluator's dict is there -/
theorem dat_rep {cm : Nat → Option Addr} {X : Cx} {H : Hp} {st : Store} {G : Gh} {v : V} {ks vs : List PV} (S : SRel (cnOf X cm) H st G) (r : RepV (cnOf X cm) G v (.dct ks vs)) : ∃ a es, v = .ref a ∧ DAt X H a es ∧ ks.map kd = es.map (fun e => some e.1) ∧ RepVs (cnOf X cm) G (es.map fun e => e.2.2) vs := by
  cases r with
  | @dct a es _ _ h1 h2 h3 h4 => exact ⟨a, es, rfl, ⟨S.fzH _ _ h1, keysH_of S h2 h3⟩, h2, h4⟩
theorem key_rep {cm : Nat → Option Addr} {X : Cx} {H : Hp} {st : Store} {G : Gh} {v : V} {p : PV} (S : SRel (cnOf X cm) H st G) (r : RepV (cnOf X cm) G v p) (hk : kok p = true) : ∃ b k, v = .ref b ∧ kd p = some k ∧ KeyH X.prog X.w X.K H k b := by
  obtain ⟨k, e⟩ := Option.isSome_iff_exists.mp hk
  cases r with
  | tup h1 h2 => exact ⟨_, k, rfl, e, keyH_of S (.tup h1 h2) e⟩
  | _ => cases e
def eDGet (m n l : EM) : EM := fun ρ st => (m ρ st).bind fun d st1 => match d with
  | .dct ks vs => (n ρ st1).bind fun k st2 => (l ρ st2).bind fun x st3 => if kok k then .ok ((dGet k ks vs).getD x) st3 else .bad
  | _ => .bad
def pDIdx (d k : PV) : Option PV := match d with
  | .dct ks vs => if kok k then dGet k ks vs else none
  | _ => none
section
variable {cm : Nat → Option Addr} {X : Cx} {W : WX} {pos apos cpos : Pos} {m n l : EM} {o e f : Expr} {k : Nat}
theorem ce_dget (hr : Room k X.A) (ho : CE cm X W m o) (he : CE cm X W n e) (hf : CE cm X W l f) (hbase : attributeBase o "get" X.env (eval o X.env) = eval o X.env := by rfl)
    (hfew : ((backTo cpos (starEach [e, f] X.env)).all (fun x => !x.1) && (backToKw cpos (keywordEach [] X.env)).all (fun x => x.1.isSome) && decide (([e, f] : List Expr).length + ([] : List Keyword).length + (if ([] : List Keyword).isEmpty then 0 else 1) < 30)) = true := by rfl)
    (hline : (apos.endLine == cpos.line) = true := by rfl) (ht : backTo cpos (starEach [e, f] X.env) = [(false, eval e X.env), (false, eval f X.env)] := by rfl) : CE cm X W (eDGet m n l) (.Call (.Attribute o "get" apos) [e, f] [] cpos) :=
  PE.weak (pe_getN hr.units ho he hf ⟨hbase, hfew, hline, ht⟩) fun σ H Q ⟨B, ρ, st, G, R, h⟩ => ⟨B, ρ, st, G, R, Out.bindR early_E R h fun d st1 H1 G1 x s1 R1 rx h1 => by
    cases d with
    | dct ks vs =>
      obtain ⟨a, es, ev, da, _, _⟩ := dat_rep R1.toSRel rx
      refine ⟨a, es, ev, da, B, ρ, st1, G1, R1, Out.bindR early_E R1 h1 fun p st2 H2 G2 y s2 R2 ry h2 => ⟨B, ρ, st2, G2, R2, Out.bindR early_E R2 h2 fun q st3 H3 G3 z s3 R3 rz h3 => ?_⟩⟩
      by_cases hk : kok p = true
      · rw [if_pos hk] at h3
        obtain ⟨a', es', ev', da', em, rv⟩ := dat_rep R3.toSRel ((rx.up s2.toGExt).up s3.toGExt)
        rw [ev] at ev'
        cases ev'
        obtain ⟨b, k, ey, ek, kh⟩ := key_rep R3.toSRel (ry.up s3.toGExt) hk
        refine ⟨b, k, es', ey, da', kh, ?_⟩
        obtain ⟨g1, g2⟩ := dget_rep ek em rv
        cases eg : dGet p ks vs with
        | none =>
          rw [eg] at h3
          have : vAt es' k = none := by unfold vAt; rw [g2 eg]; rfl
          rw [this]
          exact h3 H3 G3 z (.refl G3 H3) R3.toSRel rz
        | some q' =>
          rw [eg] at h3
          obtain ⟨v, e1, e2⟩ := g1 q' eg
          have : vAt es' k = some v := e1
          rw [this]
          exact h3 H3 G3 v (.refl G3 H3) R3.toSRel e2
      · rw [if_neg hk] at h3
        exact h3.elim
    | _ => exact h1.elim⟩
theorem ce_dix {i : Expr} (hr : Room k X.A) (ho : CE cm X W m o) (hi : CE cm X W n i) (hs : NoSl i := by exact fun _ _ => rfl) : CE cm X W (eOp2 pDIdx m n) (.Subscript o i pos) :=
  PE.weak (pe_ixN hr.units ho hi hs) fun σ H Q ⟨B, ρ, st, G, R, h⟩ => ⟨B, ρ, st, G, R, Out.bindR early_E R h fun d st1 H1 G1 x s1 R1 rx h1 => ⟨B, ρ, st1, G1, R1, Out.bindR early_E R1 h1 fun p st2 H2 G2 y s2 R2 ry h2 => by
    obtain ⟨z, ez, h3⟩ := out_ofOpt h2
    cases d with
    | dct ks vs =>
      obtain ⟨hk, ez⟩ := ite_some (show (if kok p = true then dGet p ks vs else none) = some z from ez)
      obtain ⟨a, es, ev, da, em, rv⟩ := dat_rep R2.toSRel (rx.up s2.toGExt)
      obtain ⟨b, k, ey, ek, kh⟩ := key_rep R2.toSRel ry hk
      obtain ⟨v, e1, e2⟩ := (dget_rep ek em rv).1 z ez
      exact ⟨a, b, k, es, v, ev, ey, da, kh, e1, h3 H2 G2 v (.refl G2 H2) R2.toSRel e2⟩
    | _ => cases ez⟩⟩
end
section
variable {X : Cx} {pins : List (Addr × Obj)} {σ : L2.St} {H : Hp} {s : Shared}
theorem set_keyN {E : Value → Shared → Prop} {D b : Addr} {es : List DE} {k : NestedKey} {v : V} {r : Value} {Q : Unit → Shared → Prop} (hu : X.A.units + 64 < cLine) (I : Inv X pins σ H s) (d : DAt X H D es) (hk : KeyH X.prog X.w X.K H k b) (hz : es.length < sizeLine) (rv : RelV v r)
    (h : ∀ s', Inv X pins σ (upd H D (DHO X.prog X.w D (stE es k b v))) s' → Q () s') : wpAny (model X.prog X.w) X.A (dictSet D (.ref b) r) Q E s := by
  obtain ⟨dn, xs, rel, dd⟩ := dat_of I d
  have hl : xs.length ≤ sizeLine := by rw [← rel.length]; exact dn.2.1
  refine wpAny_dictSet_heap (hsz := hl) (room8 hu).1 (hk _ I.hok I.kIn) dd fun h' dd' same => h _ ?_
  have there : ∃ q, h'.get? D = some q := by
    obtain ⟨q, _, _, hq, _⟩ := dd'
    exact ⟨q, hq⟩
  exact d_write I (by rw [d.1]; exact True.intro) same there (don_ok (don_make dn.1 (by have := stE_len (es := es) (k := k) (b := b) (v := v); omega) (deok_put rv rel) dd'))
theorem dat_nil {H : Hp} {h : Heap} (hb : sysModules < h.objs.size) : ObjOk X.prog X.w H (h.push { cls := .type "dict", data := .dict #[] }) h.objs.size (DHO X.prog X.w h.objs.size []) :=
  don_ok (don_make (beq_eq_false_iff_ne.mpr (Ne.symm (Nat.ne_of_lt hb))) (Nat.zero_le _) .nil (Heap.DictOfH.new h))
/-- what a turn leaves: the pair stored -/
def Puts (X : Cx) (D : Addr) (Nx : Hp → Prop) (y z : V) (H5 : Hp) : Prop := ∃ es k b, y = .ref b ∧ DAt X H5 D es ∧ KeyH X.prog X.w X.K H5 k b ∧ es.length < sizeLine ∧ Nx (upd H5 D (DHO X.prog X.w D (stE es k b z)))
def tDcN (X : Cx) (wi : TI) (g : TG) (tt : TT) (tk tv : TE) (vs : List Nat) : TE := fun σ H Q => wi σ H fun J H1 => ∀ D, H1 D = none → ∃ Wd : Nat → Nat → Hp → Prop, (∃ m, Wd 0 m (upd H1 D (DHO X.prog X.w D []))) ∧ ∀ i m H, Wd i m H →
  (J.stop i H ∧ Q (.ref D) H) ∨ (J.go i H ∧ ∃ Nx : Hp → Prop, (∀ H', Nx H' → ∃ m', m' < m ∧ Wd (i + 1) m' H') ∧ ∀ x H', J.yld i H x H' → g x (wipe σ vs) H' fun σ2 H2 => wipe σ2 vs = wipe σ vs ∧ tt σ2 H2 fun b H3 =>
    if b = true then tk σ2 H3 fun y H4 => tv σ2 H4 fun z H5 => Puts X D Nx y z H5 else Nx H3)
theorem dc_coreN {Q : VK} {kx vx tg iter : Expr} {ifs : List Expr} {scope : Scope} {own : List (Str × Nat)} {pos pos' : Pos} {wi : TI} {g : TG} {tt : TT} {tk tv : TE} {use : Option (Value → Sem Unit)} {Qf : Value → Shared → Prop}
    (hc : X.calm = true) (hu : X.A.units + 64 < cLine) (hN : X.N.Nodup) (I : Inv X pins σ H s) (hi : PI X tg iter wi) (ok : BlkOk X.N X.env.scope scope own)
    (hg : ∀ (s : Shared) (H : Hp) (C : Addr) (cl : List (Str × Addr)) (fp : List Addr), PG (X.blk s H scope (compEnvC scope cl C X.env) fp) tg g)
    (ht : ∀ (s : Shared) (H : Hp) (C : Addr) (cl : List (Str × Addr)) (fp : List Addr), PTs (X.blk s H scope (compEnvC scope cl C X.env) fp) ifs tt)
    (hk : ∀ (s : Shared) (H : Hp) (C : Addr) (cl : List (Str × Addr)) (fp : List Addr), PE (X.blk s H scope (compEnvC scope cl C X.env) fp) kx tk)
    (he : ∀ (s : Shared) (H : Hp) (C : Addr) (cl : List (Str × Addr)) (fp : List Addr), PE (X.blk s H scope (compEnvC scope cl C X.env) fp) vx tv) (hs : ∀ x, foldedSetIterable iter X.env x = pure x)
    (h : tDcN X wi g tt tk tv (own.map (·.2)) σ H Q)
    (hend : ∀ D C s' m H', Inv X pins σ H' s' → Q (.ref D) H' → s'.heap.Ns C m → FpOk X pins H' C → compPost (model X.prog X.w) X.A X.xe use Qf (.ref D) C (.ok .next) s') :
    wpAny (model X.prog X.w) X.A (comprehension (.DictComp kx vx [⟨tg, iter, ifs, 0⟩] scope pos) scope X.env pos' newDict false (eval iter X.env) use) Qf X.xe s := by
  have hfree : ∀ y ∈ scope.names, y.2 = .free → ∃ c, X.env.cells.lookup y.1 = some c := fun y hy e => (ok.free y hy e).elim (fun k => I.ok.has _ (.inl k)) fun k => I.ok.has _ (.inr k)
  refine wpAny_comprehension_free (use := use) rfl hs (closure_ok hfree) ok.kind (fun y hy e => by rw [ok.uniq y hy, e]) (thn (hi.run pins s σ H _ I h) fun xv s1 hx => thn hx fun itv s2 walk => ?_)
  obtain ⟨it, fp, tn, J, H2, rfl, I2, T, st2, f2, q⟩ := walk
  refine wpAny_newObj_type (newEnv_comp ?_)
  generalize hD : s2.heap.objs.size = D
  have free : H2 D = none := I2.hok.fresh (Nat.le_of_eq hD)
  obtain ⟨Wd, ⟨m0, w0⟩, turn⟩ := q D free
  generalize hs3 : ({ s2 with heap := s2.heap.push { cls := .type "dict", data := .dict #[] } } : Shared) = s3
  have h3 : s3.heap = s2.heap.push { cls := .type "dict", data := .dict #[] } := by rw [← hs3]
  have I3 : Inv X pins σ (upd H2 D (DHO X.prog X.w D [])) s3 := by
    rw [← hs3]
    refine I2.laid (t' := s2.toks) (fun b o e => Heap.get?_push_of_some _ e) (Nat.le_of_eq hD) ?_
    rw [← hD]
    exact dat_nil I2.big
  have low : ∀ b ∈ fp, b < s2.heap.objs.size := fun b hb => let ⟨o, e, _⟩ := T.obj _ _ st2 b hb; Heap.lt_size e
  have f3 : ∀ b ∈ fp, FpOk X pins (upd H2 D (DHO X.prog X.w D [])) b ∧ b < s3.heap.objs.size := fun b hb => by
    have lt := low b hb
    refine ⟨⟨?_, (f2 b hb).2⟩, by rw [h3, Heap.size_push]; exact Nat.lt_succ_of_lt lt⟩
    rw [upd_ne (by rw [← hD]; exact Nat.ne_of_lt lt)]
    exact (f2 b hb).1
  have st3 : tn 0 s3.heap := T.keep _ _ _ st2 fun b _ o e => by rw [h3]; exact Heap.get?_push_of_some _ e
  have I4 := block_start I3 ok hN f3
  generalize hH3 : upd H2 D (DHO X.prog X.w D []) = H3 at I3 I4 w0 f3
  have nfp : ∀ b ∈ fp, H3 b = none := fun b hb => (f3 b hb).1.1
  show codeAny _ _ (.compStart (.DictComp kx vx [⟨tg, iter, ifs, 0⟩] scope pos) 0 (.ref it) (.ref D) (compEnvC scope (cellsFrom (s3.heap.objs.size + 1) scope.names (cloFrom X.env.cells scope.names [])) s3.heap.objs.size X.env)) (compPost (model X.prog X.w) X.A X.xe use Qf (.ref D) s3.heap.objs.size) { s3 with heap := pushCells (s3.heap.push { cls := .type "dict", data := .dict #[] }) scope.names }
  generalize hcl : cellsFrom (s3.heap.objs.size + 1) scope.names (cloFrom X.env.cells scope.names []) = cl at I4 ⊢
  have pg := hg s3 H3 s3.heap.objs.size cl fp
  have pt := ht s3 H3 s3.heap.objs.size cl fp
  have pk := hk s3 H3 s3.heap.objs.size cl fp
  have pe := he s3 H3 s3.heap.objs.size cl fp
  generalize hce : compEnvC scope cl s3.heap.objs.size X.env = ce at I4 pg pt pk pe ⊢
  have locs : ce.locals = s3.heap.objs.size := by subst hce; rfl
  generalize hs4 : ({ s3 with heap := pushCells (s3.heap.push { cls := .type "dict", data := .dict #[] }) scope.names } : Shared) = s4 at I4 ⊢
  have st4 : tn 0 s4.heap := T.keep _ _ _ st3 fun b _ o e => by rw [← hs4]; exact pushCells_keeps _ _ _ _ (Heap.get?_push_of_some _ e)
  have held : ∀ {σ' : L2.St} {H' : Hp} {s' : Shared}, Inv (X.blk s3 H3 scope ce fp) [] σ' H' s' → (∀ b ∈ fp, H' b = none) → ∀ b ∈ fp, FpOk (X.blk s3 H3 scope ce fp) [] H' b := fun I' hn b hb =>
    ⟨hn b hb, (I'.ok.exf b hb).1, I'.ok.exfs b hb, .inl hb, fun x c e => (I'.ok.exf b hb).2 x c e, fun p hp => absurd (show p ∈ ([] : List (Addr × Obj)) ++ [] from hp) (by simp)⟩
  refine codeAny_compStart_dict ?loop (T.self X.A 0 _ _ _ st4 ?loop)
  refine compLoop_anyD (fun n s' => ∃ i H', Inv (X.blk s3 H3 scope ce fp) [] (wipe σ (own.map (·.2))) H' s' ∧ tn i s'.heap ∧ (∀ b ∈ fp, H' b = none) ∧ Wd i n H') ?_ m0 ⟨0, H3, I4, st4, nfp, w0⟩
  rintro n s5 ⟨i, H5, I5, st5, n5, w5⟩
  rcases turn i n H5 w5 with ⟨stop, last⟩ | ⟨go, Nx, hNx, step⟩
  · refine thnF (T.done (X.blk s3 H3 scope ce fp) rfl rfl rfl hc i [] s5 _ H5 (fun _ _ => False) I5 (held I5 n5) st5 stop) fun r s6 ⟨hr, I6⟩ => ?_
    subst hr
    have I7 : Inv X pins σ H5 s6 := I3.call' (ch := fp) I6.os I6.base I6.hok I6.bare fun b hb => ⟨(f3 b hb).1.2.2.2.1, (f3 b hb).1.2.1, (f3 b hb).1.2.2.2.2.1, (f3 b hb).1.2.2.2.2.2⟩
    have gone : H5 s3.heap.objs.size = none := by
      have z : H5 ce.locals = none := I6.free
      rwa [locs] at z
    obtain ⟨m, hn, _⟩ := I6.loc
    have hn : s6.heap.Ns ce.locals m := hn
    rw [locs] at hn
    exact hend D s3.heap.objs.size s6 m H5 I7 last hn (I3.fpOk (Nat.le_refl _) gone)
  · refine thnF (T.item (X.blk s3 H3 scope ce fp) rfl rfl rfl hc i [] s5 _ H5 (fun _ _ => False) I5 (held I5 n5) st5 go) fun r s6 ⟨u, hr, h6⟩ => ?_
    subst hr
    refine thnF h6 fun _ s7 ⟨x, H7, I7, r7, y7, st7, n7⟩ => ?_
    have I7' := I7.pinned (held I7 n7) (T.obj _ _ st7)
    refine thnF (pg.run _ s7 _ H7 x u _ I7' r7 (step x H7 y7)) fun _ s8 ⟨σ8, H8, I8, hw8, q8⟩ => ?_
    refine thnF (pt.run _ s8 σ8 H8 _ I8 q8) fun b s9 ⟨H9, I9, q9⟩ => ?_
    have over : ∀ {s' : Shared} {H' : Hp}, Inv (X.blk s3 H3 scope ce fp) ([] ++ pinsAt fp s7.heap) σ8 H' s' → Nx H' → ∃ m, m < n ∧ ∃ i H', Inv (X.blk s3 H3 scope ce fp) [] (wipe σ (own.map (·.2))) H' s' ∧ tn i s'.heap ∧ (∀ b ∈ fp, H' b = none) ∧ Wd i m H' := fun {s' H'} I' nx => by
      obtain ⟨m', hm, w'⟩ := hNx H' nx
      have fixed : ∀ b ∈ fp, ∀ o, s7.heap.get? b = some o → s'.heap.get? b = some o ∧ H' b = none := fun b hb o e => by
        have z := I'.pin (b, o) (List.mem_append_right _ (List.mem_append_right _ (mem_pinsAt hb e)))
        exact ⟨z.1, z.2.1⟩
      refine ⟨m', hm, i + 1, H', (I'.unpinned (pins := [])).weak (by rw [← hw8, wipe_length]) (fun j v e => ?_), T.keep _ _ _ st7 fun b hb o e => (fixed b hb o e).1, fun b hb => ?_, w'⟩
      · rw [← hw8] at e
        exact (wipe_some e).1
      · obtain ⟨o, e, _⟩ := T.obj _ _ st7 b hb
        exact (fixed b hb o e).2
    cases b with
    | false =>
      simp only [Bool.false_eq_true, if_false] at q9 ⊢
      exact over I9 q9
    | true =>
      simp only [if_true] at q9 ⊢
      refine thnF (pk.run _ s9 σ8 H9 _ I9 q9) fun z s10 ⟨yk, H10, I10, r10, q10⟩ => ?_
      refine thnF (pe.run _ s10 σ8 H10 _ I10 q10) fun z2 s11 ⟨yv, H11, I11, r11, es, k, b, ek, d11, k11, l11, nx⟩ => ?_
      subst ek
      cases (show z = Value.ref b from r10)
      exact set_keyN (X := X.blk s3 H3 scope ce fp) hu I11 d11 k11 l11 r11 fun s12 I12 => over I12 nx
theorem pe_dcN {kx vx tg iter : Expr} {ifs : List Expr} {scope : Scope} {own : List (Str × Nat)} {pos : Pos} {wi : TI} {g : TG} {tt : TT} {tk tv : TE} (hc : X.calm = true) (hu : X.A.units + 64 < cLine) (hN : X.N.Nodup) (hi : PI X tg iter wi) (ok : BlkOk X.N X.env.scope scope own)
    (hg : ∀ (s : Shared) (H : Hp) (C : Addr) (cl : List (Str × Addr)) (fp : List Addr), PG (X.blk s H scope (compEnvC scope cl C X.env) fp) tg g)
    (ht : ∀ (s : Shared) (H : Hp) (C : Addr) (cl : List (Str × Addr)) (fp : List Addr), PTs (X.blk s H scope (compEnvC scope cl C X.env) fp) ifs tt)
    (hk : ∀ (s : Shared) (H : Hp) (C : Addr) (cl : List (Str × Addr)) (fp : List Addr), PE (X.blk s H scope (compEnvC scope cl C X.env) fp) kx tk)
    (he : ∀ (s : Shared) (H : Hp) (C : Addr) (cl : List (Str × Addr)) (fp : List Addr), PE (X.blk s H scope (compEnvC scope cl C X.env) fp) vx tv) (hs : ∀ x, foldedSetIterable iter X.env x = pure x := by intro _; rfl) :
    PE X (.DictComp kx vx [⟨tg, iter, ifs, 0⟩] scope pos) (tDcN X wi g tt tk tv (own.map (·.2))) := by
  refine ⟨fun pins s σ H Q I h => ?_⟩
  rw [arm_eval_DictComp]
  refine dc_coreN hc hu hN I hi ok hg ht hk he hs h fun D C s' m H' I' q hn f => ⟨m, hn, fun h'' sb => ⟨.ref D, H', ?_, rfl, q⟩⟩
  obtain ⟨f0, f1, f2, f3, f4, f5⟩ := f
  exact I'.turned (t' := s'.toks) (fun b o hb e => (sb.2 b hb).trans e) f0 f1 f3 f4 f5
end
section
variable {cm : Nat → Option Addr} {X : Cx} {W : WX} {pos : Pos}
theorem w_dc {own : List (Str × Nat)} {w : AM} {g : GM} {ol : List Nat} {t : BM} {ek ev : EM} (ho : ∀ j ∈ ol, j ∈ own.map (·.2)) (gp : ∀ p ρ st z, g p ρ st = some z → z.2 = st) {σ : L2.St} {H : Hp} {Q : VK} (h0 : tE (cnOf X cm) W (eDc w (own.map (·.2)) g t ek ev) σ H Q) :
    tDcN X (tI (cnOf X cm) W w) (tGp (cnOf X cm) ol g) (tT (cnOf X cm) W0 t) (tE (cnOf X cm) W0 ek) (tE (cnOf X cm) W0 ev) (own.map (·.2)) σ H Q := by
  obtain ⟨B, ρ, st, G, R, h⟩ := h0
  refine ⟨B, ρ, st, G, R, Out.bindR early_E R h fun xs st1 H1 G1 J s1 R1 wk h1 => fun D hD => ?_⟩
  have nf := R1.toSRel.notFz hD
  have ni := R1.toSRel.notIo hD
  refine ⟨fun i k H' => k = xs.length - i ∧ i ≤ xs.length ∧ ∃ (ks vs : List PV) (es : List DE) (st' : Store) (G' : Gh), Stp G1 H1 G' H' ∧ SRel (cnOf X cm) H' st' G' ∧ H' D = some (DHO X.prog X.w D es) ∧ (es.map fun e => e.1).Nodup ∧ ks.map kd = es.map (fun e => some e.1) ∧
      RepVs (cnOf X cm) G' (es.map fun e => V.ref e.2.1) ks ∧ RepVs (cnOf X cm) G' (es.map fun e => e.2.2) vs ∧ G'.fz D = none ∧ D ∉ G'.io ∧
      Out (cnOf X cm) (rpE (cnOf X cm)) G1 H1 Q (fun cls d H' => W cls d σ H') (dcGo g t ek ev (wipeE ρ (own.map (·.2))) (xs.drop i) ks vs st'),
    ⟨_, rfl, Nat.zero_le _, [], [], [], st1, G1, (Stp.refl G1 H1).updOut hD, R1.toSRel.updOut nf ni, upd_same, List.nodup_nil, rfl, .nil, .nil, nf, ni, h1⟩, ?_⟩
  rintro i k H2 ⟨rfl, hi, ks, vs, es, st2, G2, s2, S2, hD2, nd, em, rk, rv, n1, n2, h2⟩
  obtain ⟨wgo, wstop⟩ := wk i H2 G2 st2 s2.toGExt S2
  by_cases hlt : i < xs.length
  · refine .inr ?_
    obtain ⟨go, y⟩ := wgo _ (List.getElem?_eq_getElem hlt)
    rw [List.drop_eq_getElem_cons hlt] at h2
    refine ⟨go, fun H' => ∃ (ks vs : List PV) (es : List DE) (st' : Store) (G' : Gh), Stp G1 H1 G' H' ∧ SRel (cnOf X cm) H' st' G' ∧ H' D = some (DHO X.prog X.w D es) ∧ (es.map fun e => e.1).Nodup ∧ ks.map kd = es.map (fun e => some e.1) ∧
      RepVs (cnOf X cm) G' (es.map fun e => V.ref e.2.1) ks ∧ RepVs (cnOf X cm) G' (es.map fun e => e.2.2) vs ∧ G'.fz D = none ∧ D ∉ G'.io ∧
      Out (cnOf X cm) (rpE (cnOf X cm)) G1 H1 Q (fun cls d H' => W cls d σ H') (dcGo g t ek ev (wipeE ρ (own.map (·.2))) (xs.drop (i + 1)) ks vs st'), fun H' q => ⟨_, by omega, rfl, hlt, q⟩, fun v H3 hy => ?_⟩
    obtain ⟨G3, s3, S3, r3⟩ := y v H3 hy
    have s13 := s2.trans s3
    have R3 := (R1.step s13 S3).wipe (own.map (·.2))
    unfold dcGo at h2
    cases eg : g xs[i] (wipeE ρ (own.map (·.2))) st2 with
    | none => rw [eg] at h2; exact h2.elim
    | some z =>
      obtain ⟨ρ4, st4⟩ := z
      have est : st4 = st2 := gp xs[i] _ st2 _ eg
      subst est
      rw [eg] at h2
      simp only at h2
      refine ⟨B, _, _, G3, xs[i], R3, r3, ρ4, eg, fun σ4 l4 k4 R4 => ⟨wipe_eq ho l4 k4, B, ρ4, st4, G3, R4, ?_⟩⟩
      cases et : t ρ4 st4 with
      | bad => rw [et] at h2; exact h2
      | ex _ _ _ _ => rw [et] at h2; exact h2.elim
      | ok kk st5 =>
        rw [et] at h2
        intro H5 G5 b s5 S5 eb
        subst eb
        have s15 := s13.trans s5
        have hD3 := s3.keep _ _ hD2 n2
        have m1 := s3.nfz _ _ hD2 n1
        have m2 := s3.nio _ _ hD2 n2
        have hD5 := s5.keep _ _ hD3 m2
        have p1 := s5.nfz _ _ hD3 m1
        have p2 := s5.nio _ _ hD3 m2
        have rk5 := (rk.up s3.toGExt).up s5.toGExt
        have rv5 := (rv.up s3.toGExt).up s5.toGExt
        cases b with
        | false =>
          rw [if_neg Bool.false_ne_true]
          exact ⟨ks, vs, es, st5, G5, s15, S5, hD5, nd, em, rk5, rv5, p1, p2, h2⟩
        | true =>
          rw [if_pos rfl]
          refine ⟨B, ρ4, st5, G5, R4.step s5 S5, ?_⟩
          have h2 : Out (cnOf X cm) (rpE (cnOf X cm)) G1 H1 Q (fun cls d H' => W cls d σ H') ((ek ρ4 st5).noex.bind fun k st3 => (ev ρ4 st3).noex.bind fun v st4 =>
              (if kok k && decide (ks.length < lim) then dcGo g t ek ev (wipeE ρ (own.map (·.2))) (xs.drop (i + 1)) (dPut k v ks vs).1 (dPut k v ks vs).2 st4 else .bad)) := h2
          cases ee : ek ρ4 st5 with
          | bad => rw [ee] at h2; exact h2
          | ex _ _ _ _ => rw [ee] at h2; exact h2.elim
          | ok p st6 =>
            rw [ee] at h2
            intro H6 G6 v6 s6 S6 r6
            refine ⟨B, ρ4, st6, G6, (R4.step s5 S5).step s6 S6, ?_⟩
            have h2 : Out (cnOf X cm) (rpE (cnOf X cm)) G1 H1 Q (fun cls d H' => W cls d σ H') ((ev ρ4 st6).noex.bind fun v st4 =>
              (if kok p && decide (ks.length < lim) then dcGo g t ek ev (wipeE ρ (own.map (·.2))) (xs.drop (i + 1)) (dPut p v ks vs).1 (dPut p v ks vs).2 st4 else .bad)) := h2
            cases ew : ev ρ4 st6 with
            | bad => rw [ew] at h2; exact h2
            | ex _ _ _ _ => rw [ew] at h2; exact h2.elim
            | ok q st7 =>
              rw [ew] at h2
              intro H7 G7 v7 s7 S7 r7
              have s57 := s6.trans s7
              have hD7 := s57.keep _ _ hD5 p2
              have q1 := s57.nfz _ _ hD5 p1
              have q2 := s57.nio _ _ hD5 p2
              have h2 : Out (cnOf X cm) (rpE (cnOf X cm)) G1 H1 Q (fun cls d H' => W cls d σ H') (if kok p && decide (ks.length < lim) then dcGo g t ek ev (wipeE ρ (own.map (·.2))) (xs.drop (i + 1)) (dPut p q ks vs).1 (dPut p q ks vs).2 st7 else .bad) := h2
              by_cases hb : (kok p && decide (ks.length < lim)) = true
              · rw [if_pos hb] at h2
                obtain ⟨b1, b2⟩ := Bool.and_eq_true_iff.mp hb
                have r6' := r6.up s7.toGExt
                obtain ⟨b, k, ey, ekd, kh⟩ := key_rep S7 r6' b1
                subst ey
                have rk7 := rk5.up s57.toGExt
                have rv7 := rv5.up s57.toGExt
                obtain ⟨d1, d2, d3⟩ := dput_rep ekd r6' r7 nd em rk7 rv7
                have hl : ks.length = es.length := by
                  have := congrArg List.length em
                  simpa using this
                refine ⟨es, k, b, rfl, ⟨hD7, keysH_of S7 em rk7⟩, kh, ?_, (dPut p q ks vs).1, (dPut p q ks vs).2, stE es k b v7, st7, G7, ((s15.trans s57).updOut hD), S7.updOut q1 q2, upd_same, stE_nodup nd, d1, d2, d3, q1, q2, h2⟩
                rw [← hl]
                exact Nat.lt_of_lt_of_le (of_decide_eq_true b2) (by decide)
              · rw [if_neg hb] at h2
                exact h2.elim
  · refine .inl ?_
    have e : i = xs.length := by omega
    subst e
    rw [List.drop_length] at h2
    refine ⟨wstop rfl, ?_⟩
    obtain ⟨S3, s3, ext⟩ := frzOld s2 S2 hD2 n1 n2 hD
    exact h2 H2 _ (.ref D) s3 S3 (.dct (by show upd G2.fz D _ D = _; exact upd_same) em (rk.up ext) (rv.up ext))
theorem ce_dc {kx vx tg iter : Expr} {ifs : List Expr} {scope : Scope} {own : List (Str × Nat)} {w : AM} {g : GM} {ol : List Nat} {t : BM} {ek ev : EM} {k : Nat} (hr : Room k X.A) (hc : X.calm = true) (hN : X.N.Nodup) (hi : CI cm X W w tg iter) (ok : BlkOk X.N X.env.scope scope own) (ho : ∀ j ∈ ol, j ∈ own.map (·.2))
    (hg : ∀ (s : Shared) (H : Hp) (C : Addr) (cl : List (Str × Addr)) (fp : List Addr), CGp cm (X.blk s H scope (compEnvC scope cl C X.env) fp) ol g tg)
    (ht : ∀ (s : Shared) (H : Hp) (C : Addr) (cl : List (Str × Addr)) (fp : List Addr), CTs cm (X.blk s H scope (compEnvC scope cl C X.env) fp) t ifs)
    (hk : ∀ (s : Shared) (H : Hp) (C : Addr) (cl : List (Str × Addr)) (fp : List Addr), CE cm (X.blk s H scope (compEnvC scope cl C X.env) fp) W0 ek kx)
    (he : ∀ (s : Shared) (H : Hp) (C : Addr) (cl : List (Str × Addr)) (fp : List Addr), CE cm (X.blk s H scope (compEnvC scope cl C X.env) fp) W0 ev vx) (hs : ∀ x, foldedSetIterable iter X.env x = pure x := by intro _; rfl) :
    CE cm X W (eDc w (own.map (·.2)) g t ek ev) (.DictComp kx vx [⟨tg, iter, ifs, 0⟩] scope pos) :=
  PE.weak (pe_dcN (g := tGp (cnOf X cm) ol g) (tt := tT (cnOf X cm) W0 t) (tk := tE (cnOf X cm) W0 ek) (tv := tE (cnOf X cm) W0 ev) hc hr.units hN hi ok (fun s H C cl fp => (hg s H C cl fp).run) ht hk he hs) fun σ H Q h => w_dc ho (hg X.s_0 H X.env.locals [] []).pure h
end
end BR
set_option Elab.async false
set_option linter.all false
set_option maxRecDepth 100000
set_option maxHeartbeats 4000000
namespace BR
open PySem PySem.Spec PyProof.Rows L2
theorem src_raw {prog : Program} {w : World} {d : Addr} {tab : Array DictEntry} {ep : Nat} (lo : (d == sysModules) = false) : PySem.W.KdlSrc prog w "dict" d d tab.size (fun i v => ∃ hi : i < tab.size, v = tab[i].key) (fun h => h.DictRaw d tab ep) where
  type := fun _ hm => hm.typeIs
  there := fun _ hm => by
    obtain ⟨o, ho, _⟩ := hm
    exact ⟨Heap.lt_size ho, Heap.lt_size ho⟩
  keep := fun _ _ hm hk => hm.at fun o e => hk d (.inl rfl) o e
  notList := by decide
  notTuple := by decide
  hint := fun _ _ _ _ hm hq => PySem.W.kdl_hint_dict hm.typeIs hq
  iter := fun _ s hh hm => by
    have lt : d < s.heap.objs.size := by
      obtain ⟨o, ho, _⟩ := id hm
      exact Heap.lt_size ho
    exact ⟨_, _, (fun _ _ hq => wpAny_pyIter_dict_raw lo hm hq), Walks.rawKeys hh _ d (Nat.ne_of_lt lt) tab ep, ⟨⟨_, Heap.get?_push_size _ rfl, rfl, rfl⟩, hm.at fun o e => Heap.get?_push_of_some _ e⟩⟩
theorem deok_refs : ∀ {es : List DE} {xs : List (NestedKey × Addr × Value)}, Paired DEOk es xs → Vals (es.map fun e => V.ref e.2.1) (xs.map fun x => Value.ref x.2.1)
  | _, _, .nil => .nil
  | _, _, .cons (a := e) (b := x) h t => .cons (by show Value.ref x.2.1 = Value.ref e.2.1; rw [h.2.1]) (deok_refs t)
def rListD (P : Program) (w : World) : List V → Hp → VK → Prop := fun xs H Q => ∃ a es, xs = [.ref a] ∧ H a = some (DHO P w a es) ∧ ∀ l, H l = none → Q (.ref l) (upd H l (.lst (es.map fun e => V.ref e.2.1)))
theorem call_listD {X : Cx} (hc : X.calm = true) : CallR X (.type "list") (rListD X.prog X.w) := by
  intro pins s σ H xs us Q I r h
  obtain ⟨a, es, rfl, ha, q⟩ := h
  obtain ⟨u, rfl, rx⟩ := vals1 r
  cases rx
  obtain ⟨d1, d2, d3, xs, rel, o, tab, ep, ho, hx, hd, he⟩ := don_of I ha
  have hl : tab.size = xs.length := size_of_entries he
  have hz : es.length = xs.length := rel.length
  refine PySem.W.kdl_call (src_raw (tab := tab) (ep := ep) d1) (I.ok.hd hc) ⟨o, ho, hx, hd⟩ (by rw [hl, ← hz]; exact d2) fun h' tk acc c' hk hD hacc => ?_
  have eacc : acc.toList = xs.map fun x => Value.ref x.2.1 := by
    refine List.ext_getElem? fun j => ?_
    rw [Array.getElem?_toList, List.getElem?_map]
    cases e : acc[j]? with
    | none =>
      have : acc.size ≤ j := by
        rcases Nat.lt_or_ge j acc.size with q1 | q1
        · rw [Array.getElem?_eq_getElem q1] at e; cases e
        · exact q1
      rw [List.getElem?_eq_none (by rw [← hl, ← hacc.1]; exact this)]
      rfl
    | some v =>
      obtain ⟨hi, rfl⟩ := hacc.2 j v e
      have z := entry_at he j
      rw [Array.getElem?_eq_getElem hi] at z
      cases ex : xs[j]? with
      | none => rw [ex] at z; cases z
      | some x =>
        rw [ex] at z
        have z' : tab[j] = entryOfKey (nestedKind X.prog X.w) x := Option.some.inj z
        rw [z']
        rfl
  have new : ObjOk X.prog X.w (upd H s.heap.objs.size (.lst (es.map fun e => V.ref e.2.1))) h' s.heap.objs.size (.lst (es.map fun e => V.ref e.2.1)) := by
    refine ⟨by rw [List.length_map]; exact d2, acc.toList, c', ?_, by rw [Array.toArray_toList]; exact hD⟩
    rw [eacc]
    exact deok_refs rel
  exact ⟨.ref s.heap.objs.size, _, I.laid (t' := tk) hk (Nat.le_refl _) new, rfl, q _ (I.hok.fresh (Nat.le_refl _))⟩
/-- list(d) of such a dict: a new list of its keys -/
def fListD (m : EM) : FM := fun ρ st => (m ρ st).bind fun p st1 => match p with
  | .dct ks _ => .ok (.own ks) st1
  | _ => .bad
section
variable {cm : Nat → Option Addr} {X : Cx} {W : WX} {pos p : Pos} {m : EM} {e : Expr}
theorem cf_listD (hc : X.calm = true) (hm : X.mg "list" = none) (he : CE cm X W m e) (hg : Gl X "list" := by rfl) (hb : bootBuiltins "list" = some (.type "list") := by decide +kernel) (hs : starEach [e] X.env = (false, eval e X.env) :: starEach [] X.env := by rfl) : CF cm X W (fListD m) (.Call (.Name "list" p) [e] [] pos) :=
  PE.weak (pe_callTy (call_listD hc) hg hm hb (pa_cons he pa_nil hs) (by decide) (by decide) hs) fun σ H Q ⟨B, ρ, st, G, R, h⟩ => ⟨B, ρ, st, G, R, Out.bindR early_F R h fun p st1 H1 G1 x s1 R1 rx h1 => by
    cases rx with
    | @dct a es ks vs h1' h2 h3 h4 =>
      refine ⟨a, es, rfl, R1.toSRel.fzH _ _ h1', fun l hl => ?_⟩
      obtain ⟨S2, s2⟩ := R1.toSRel.fresh (o := .lst (es.map fun e => V.ref e.2.1)) hl
      exact h1 _ _ _ s2 S2 ⟨l, _, rfl, upd_same, h3, R1.toSRel.notFz hl, R1.toSRel.notIo hl, hl⟩
    | _ => exact h1.elim⟩
end
def stAll (acc es : List DE) : List DE := es.foldl (fun acc e => stE acc e.1 e.2.1 e.2.2) acc
theorem deok_all : ∀ {es : List DE} {xs : List (NestedKey × Addr × Value)} {acc : List DE} {ac : List (NestedKey × Addr × Value)}, Paired DEOk es xs → Paired DEOk acc ac → Paired DEOk (stAll acc es) (storedAllH ac xs)
  | _, _, _, _, .nil, r => r
  | _, _, acc, ac, .cons (a := e) (b := x) h t, r => by
    show Paired DEOk (stAll (stE acc e.1 e.2.1 e.2.2) _) (storedAllH (storedH ac x.1 x.2.1 x.2.2) _)
    refine deok_all t ?_
    rw [h.1, h.2.1]
    exact deok_put h.2.2 r
/-- where the pairs stand, what they are -/
def PairH (P : Program) (w : World) (K : PySem.W.Frag) (H : Hp) (T : Addr) (e : DE) : Prop := SqT K H T [.ref e.2.1, e.2.2] ∧ KeyH P w K H e.1 e.2.1
def rDictN (P : Program) (w : World) (K : PySem.W.Frag) : List V → Hp → VK → Prop := fun xs H Q => ∃ (a : Addr) (Ts : List Addr) (es : List DE), xs = [.ref a] ∧ (SqL K H a (Ts.map V.ref) ∨ ∃ o : Obj, H a = some (tupO o (Ts.map V.ref)) ∧ o.dict = none) ∧ Paired (PairH P w K H) Ts es ∧
  ∀ p, H p = none → Q (.ref p) (upd H p (DHO P w p (stAll [] es)))
theorem pairs_there {X : Cx} {pins : List (Addr × Obj)} {σ : L2.St} {H : Hp} {s : Shared} (I : Inv X pins σ H s) : ∀ {Ts : List Addr} {es : List DE}, Paired (PairH X.prog X.w X.K H) Ts es → ∃ xs : List (NestedKey × Addr × Value), Paired DEOk es xs ∧ xs.length = Ts.length ∧
    ∀ (j : Nat) (x : NestedKey × Addr × Value), xs[j]? = some x → ∃ T, Ts[j]? = some T ∧ s.heap.IsTuple T #[.ref x.2.1, x.2.2] ∧ (nestedKind X.prog X.w).is s.heap x.1 x.2.1
  | _, _, .nil => ⟨[], .nil, rfl, fun j x h => by simp at h⟩
  | _, _, .cons (a := T) (b := e) h t => by
    obtain ⟨xs, h1, h2, h3⟩ := pairs_there I t
    obtain ⟨its, rv, p, _⟩ := I.tuple h.1
    obtain ⟨u1, u2, rfl, r1, r2⟩ := vals2 rv
    cases (show u1 = Value.ref e.2.1 from r1)
    refine ⟨(e.1, e.2.1, u2) :: xs, .cons ⟨rfl, rfl, r2⟩ h1, by simp [h2], fun j x hx => ?_⟩
    cases j with
    | zero =>
      cases (show some (e.1, e.2.1, u2) = some x from hx)
      exact ⟨T, rfl, p, h.2 _ I.hok I.kIn⟩
    | succ j => exact h3 j x hx
theorem call_dictN {X : Cx} {k : Nat} (hr : Room k X.A) : CallR X (.type "dict") (rDictN X.prog X.w X.K) := by
  intro pins s σ H xs us Q I r h
  obtain ⟨a, Ts, es, rfl, hq, hp, q⟩ := h
  obtain ⟨u, rfl, rx⟩ := vals1 r
  cases rx
  obtain ⟨xs, rel, hl, there⟩ := pairs_there I hp
  have fin : ∀ (T : String) (items : Array Value), items.toList = Ts.map Value.ref → Ts.length ≤ sizeLine →
      (∀ Tf ps, PairArg X.prog X.w T a (a :: (List.range ps.length).map Tf) [] ps.length (PairRel ps) (fun h => PlainSeq T h a items ∧ PairItems h items Tf ps)) → PlainSeq T s.heap a items → wpAny (model X.prog X.w) X.A (call (.type "dict") [.ref a]) (EP X pins σ Q) X.xe s := by
    intro T items ei hz arg plain
    have iz : items.size = Ts.length := by rw [← Array.length_toList, ei, List.length_map]
    refine call_dict_pairsH (knd := nestedKind X.prog X.w) (ps := xs) (arg (fun j => (Ts[j]?).getD 0) (xs.map fun x => (Value.ref x.2.1, x.2.2))) hr.hd (room8 hr.units).2.2 ⟨plain, ?_, ?_⟩ ⟨?_, ?_⟩ ?_ ?_ fun h' tk dd keep => ?_
    · rw [List.length_map, iz, hl]
    · intro j kk v e
      rw [List.getElem?_map] at e
      cases ex : xs[j]? with
      | none => rw [ex] at e; cases e
      | some x =>
        rw [ex] at e
        cases e
        obtain ⟨T', eT, ht, _⟩ := there j x ex
        show items[j]? = some (Value.ref ((Ts[j]?).getD 0)) ∧ PairAt s.heap ((Ts[j]?).getD 0) _ _
        rw [eT]
        refine ⟨?_, .inl ht⟩
        rw [← Array.getElem?_toList, ei, List.getElem?_map, eT]
        rfl
    · simp
    · intro i key v e
      have e : (xs.map fun x => (Value.ref x.2.1, x.2.2))[i]? = some (key, v) := e
      rw [List.getElem?_map] at e
      cases ex : xs[i]? with
      | none => rw [ex] at e; cases e
      | some x =>
        rw [ex] at e
        cases e
        exact ⟨x.1, x.2.1, rfl, rfl⟩
    · intro h' hk x hx
      obtain ⟨j, hj⟩ := List.mem_iff_getElem?.mp hx
      obtain ⟨_, _, _, hi⟩ := there j x hj
      exact ⟨NestedIs.at (fun b o vs n e _ => hk b o (Nat.ne_of_lt (Heap.lt_size e)) List.not_mem_nil e) _ _ hi.1, hi.2⟩
    · rw [List.length_map, hl]; exact hz
    · have hsys : (s.heap.objs.size == sysModules) = false := beq_eq_false_iff_ne.mpr (Nat.ne_of_gt I.big)
      have le : (stAll [] es).length ≤ sizeLine := by
        rw [(deok_all rel (.nil : Paired DEOk [] [])).length]
        refine Nat.le_trans (storedAllH_length xs []) ?_
        rw [List.length_nil, Nat.zero_add, hl]
        exact hz
      exact ⟨.ref s.heap.objs.size, _, I.laid (t' := tk) (fun b o e => keep b o List.not_mem_nil e) (Nat.le_refl _) (don_ok (don_make hsys le (deok_all rel .nil) dd)), rfl, q _ (I.hok.fresh (Nat.le_refl _))⟩
  rcases hq with hq | ⟨o, ho, hd⟩
  · obtain ⟨its, rv, pl, hz⟩ := I.list hq
    obtain ⟨o, n, ho, hc, hd, hdat⟩ := pl
    have ei := refs_at rv
    exact fin "list" its.toArray (by simp [ei]) (by rw [List.length_map] at hz; exact hz) (fun Tf ps => PairArg.list a _ Tf ps) ⟨o, n, ho, hc, hd, hdat⟩
  · obtain ⟨hg, hz, its, rv, o', ho', hc, n, hdat⟩ := (show ObjOk X.prog X.w H s.heap a (tupO o (Ts.map V.ref)) from I.hok a _ ho)
    have eo : o' = o := Option.some.inj (ho'.symm.trans hg)
    subst eo
    have ei := refs_at rv
    exact fin "tuple" its.toArray (by simp [ei]) (by rw [List.length_map] at hz; exact hz) (fun Tf ps => PairArg.tuple a _ Tf ps) ⟨o', n, ho', hc, hd, hdat⟩
def dOf : List PV → List PV → List PV → Option (List PV × List PV)
  | [], ks, vs => some (ks, vs)
  | x :: xs, ks, vs => match x with
    | .tup [k, v] => if kok k then dOf xs (dPut k v ks vs).1 (dPut k v ks vs).2 else none
    | _ => none
def nDict : List PV → Option PV
  | [.tup xs] => (dOf xs [] []).map fun r => .dct r.1 r.2
  | [.lst xs] => (dOf xs [] []).map fun r => .dct r.1 r.2
  | _ => none
/-- the entries are what the evaluator has -/
structure DRep (c : Cn) (G : Gh) (es : List DE) (ks vs : List PV) : Prop where
  nd : (es.map fun e => e.1).Nodup
  key : ks.map kd = es.map (fun e => some e.1)
  rk : RepVs c G (es.map fun e => V.ref e.2.1) ks
  rv : RepVs c G (es.map fun e => e.2.2) vs
theorem dOf_rep {cm : Nat → Option Addr} {X : Cx} {H : Hp} {st : Store} {G : Gh} (S : SRel (cnOf X cm) H st G) : ∀ {xs : List PV} {us : List V} {acc : List DE} {ks vs : List PV} {z : List PV × List PV}, RepVs (cnOf X cm) G us xs → DRep (cnOf X cm) G acc ks vs → dOf xs ks vs = some z →
    ∃ (Ts : List Addr) (es : List DE), us = Ts.map V.ref ∧ Paired (PairH X.prog X.w X.K H) Ts es ∧ DRep (cnOf X cm) G (stAll acc es) z.1 z.2
  | [], _, acc, ks, vs, z, r, d, h => by
    cases r
    cases h
    exact ⟨[], [], rfl, .nil, d⟩
  | x :: xs, _, acc, ks, vs, z, r, d, h => by
    cases r with
    | @cons u _ us _ r1 r2 =>
      cases x with
      | tup l =>
        match l, h, r1 with
        | [k, v], h, r1 =>
          obtain ⟨hk, h'⟩ := ite_some (show (if kok k = true then dOf xs (dPut k v ks vs).1 (dPut k v ks vs).2 else none) = some z from h)
          cases r1 with
          | @tup T ws _ ht rt =>
            cases rt with
            | @cons u1 _ w1 _ a1 a2 =>
              cases a2 with
              | @cons u2 _ w2 _ b1 b2 =>
                cases b2
                obtain ⟨b, kk, eb, ek, kh⟩ := key_rep S a1 hk
                subst eb
                obtain ⟨d1, d2, d3⟩ := dput_rep ek a1 b1 d.nd d.key d.rk d.rv
                obtain ⟨Ts, es, e1, e2, e3⟩ := dOf_rep S r2 ⟨stE_nodup d.nd, d1, d2, d3⟩ h'
                exact ⟨T :: Ts, (kk, b, u2) :: es, by rw [List.map_cons, e1], .cons ⟨S.sqT ht, kh⟩ e2, e3⟩
        | [], h, _ => cases h
        | [_], h, _ => cases h
        | _ :: _ :: _ :: _, h, _ => cases h
      | _ => cases h
theorem rd_dict {cm : Nat → Option Addr} {X : Cx} : RdN (cnOf X cm) (rDictN X.prog X.w X.K) nDict := by
  intro G H st vs ps z Q S r h kq
  have fin : ∀ {a : Addr} {us : List V} {xs : List PV}, RepVs (cnOf X cm) G us xs → (dOf xs [] []).map (fun r => PV.dct r.1 r.2) = some z → (∀ Ts : List Addr, us = Ts.map V.ref → SqL X.K H a (Ts.map V.ref) ∨ ∃ o : Obj, H a = some (tupO o (Ts.map V.ref)) ∧ o.dict = none) → rDictN X.prog X.w X.K [.ref a] H Q := fun {a us xs} ra e hq => by
    obtain ⟨y, ey, rfl⟩ := map_some e
    obtain ⟨Ts, es, e1, e2, e3⟩ := dOf_rep S ra (⟨List.nodup_nil, rfl, .nil, .nil⟩ : DRep (cnOf X cm) G [] [] []) ey
    refine ⟨a, Ts, es, rfl, hq Ts e1, e2, fun p hp => rd_new S hp ?_ kq⟩
    have ext := up_new (o := DHO X.prog X.w p (stAll [] es)) S hp
    exact .dct (by show upd G.fz p _ p = _; exact upd_same) e3.key (e3.rk.up ext) (e3.rv.up ext)
  match ps, h with
  | [.tup xs], h =>
    obtain ⟨v, rfl, r1⟩ := rep1 r
    cases r1 with
    | @tup a us _ ha ra =>
      obtain ⟨o, h1, h2⟩ := ha
      exact fin ra h fun Ts e => .inr ⟨o, by rw [← e]; exact S.fzH _ _ h1, h2⟩
  | [.lst xs], h =>
    obtain ⟨v, rfl, r1⟩ := rep1 r
    cases r1 with
    | @lst a us _ ha ra => exact fin ra h fun Ts e => .inl (by rw [← e]; exact SqL.of (S.lst ha))
end BR
set_option Elab.async false
set_option linter.all false
set_option maxRecDepth 100000
set_option maxHeartbeats 4000000
namespace BR
open PySem PySem.Spec PyProof.Rows L2
open He (ba eqO eqO_ok ga ma)
end BR
set_option Elab.async false
set_option linter.all false
set_option maxRecDepth 100000
set_option maxHeartbeats 4000000
namespace BR
open PySem PySem.Spec PyProof.Rows L2
def tyAmong (Ts : List String) (q : PV) : Bool := match tyName q with
  | some t => Ts.any fun T => decide (T = t)
  | none => false
/-- what may stand at the right of an own operator -/
def rightOk (cl : Nat) (Ts : List String) (q : PV) (st : Store) : Bool := (insOf cl q st).isSome || tyAmong Ts q
/-- p op q, by the def of p's class -/
def fOwn (call : CallT) (id cl : Nat) (Ts : List String) (m n : EM) : FM := fun ρ st => (m ρ st).bind fun p st1 => (n ρ st1).bind fun q st2 => if (insOf cl p st2).isSome && rightOk cl Ts q st2 then call id [p, q] st2 else .bad
/-- len(p), by the def of p's class -/
def lenOf (v : SV) (st2 : Store) : R PV := match v with
  | .val (.int i) => if 0 ≤ i ∧ i < 2 ^ 62 then .ok (.int i) st2 else .bad
  | _ => .bad
def eLenI (call : CallT) (id cl : Nat) (m : EM) : EM := fun ρ st => (m ρ st).bind fun p st1 => if (insOf cl p st1).isSome then (call id [p] st1).noex.bind lenOf else .bad
def pIsiOwn (cl : Nat) (Ts : List String) (p : PV) (st : Store) : Option PV := if (insOf cl p st).isSome then some (.bl true) else if tyAmong Ts p then some (.bl false) else none
section
variable {cm : Nat → Option Addr} {X : Cx} {W : WX} {pos p : Pos} {m n : EM} {a b : Expr} {cl id k : Nat} {C g : Addr} {call : CallT} {fd : FuncData} {ps : List Str} {Ts : List String}
/-- a statement that is never reached -/
def sBad : SM := fun _ _ => .bad
end
end BR
set_option Elab.async false
set_option linter.all false
set_option maxRecDepth 100000
namespace BR
open PySem PySem.W HandSHeadRun
theorem run_parts {n M : Nat} {fa : List He.Fa} {fb : List Fb} {ts : List He.Tab} {gs : List DD} {r : OpenRow} {q : Program} {loose : List Str} {w : World} (h1 : Eq1 r q M loose w) (h2 : Eq2 n fa r M w) (h3 : Eq3 n fb gs r M w) (h4 : Eq4 n ts gs r M w) :
    RunEq r q (hookB n fa fb ts gs) (fun s => obsB n fa fb ts gs (getT s)) M loose w := fun os => by
  have e1 := h1 os
  have e2 := h2 os
  have e3 := h3 os
  have e4 := h4 os
  show (topRun r M w os).map _ = _
  cases e : topRun r M w os with
  | none => rw [e] at e1; cases e1
  | some s =>
    rw [e] at e1 e2 e3 e4
    simp only [Option.map_some, Option.some.injEq, Prod.mk.injEq] at e1 e2 e3 e4
    have eo : obsB n fa fb ts gs (getT s) = (((fa.all fun f => f.ok (kOf n s)) && exB fb gs (kOf n s)), ts.map (fun t => He.dicW (kOf n s) (t.1 (kOf n s))), gs.map fun d => fnWA (kOf n s) (d.adr (kOf n s))) := rfl
    show some (_, _, obsB n fa fb ts gs (getT s)) = some (true, openGood q loose, (true, ts.map (fun t => some (He.keysIn w.params t.2)), gs.map DD.val))
    rw [eo, e1.1, e1.2, e2, e3, e4.1, e4.2]
    rfl
end BR
set_option Elab.async false
set_option linter.all false
set_option maxRecDepth 100000
namespace BR
open PySem PySem.Spec PyProof.Rows L2
end BR
set_option Elab.async false
set_option linter.all false
set_option maxRecDepth 100000
set_option maxHeartbeats 4000000
namespace BR
open PySem PySem.Spec PyProof.Rows L2
open He (ba eqO eqO_ok ga ma)
end BR
set_option Elab.async false
set_option linter.all false
set_option maxRecDepth 100000
set_option maxHeartbeats 2000000
namespace BR
open PySem PySem.Spec PyProof.Rows L2
/-- 1 + 5 + .. (n parts) -/
def gsum : Nat → Nat
  | 0 => 0
  | n + 1 => 5 * gsum n + 1
theorem gsum_s (n : Nat) : gsum (n + 1) = 5 * gsum n + 1 := rfl
theorem five_pow (n : Nat) : 5 ^ n = 4 * gsum n + 1 := by
  induction n with
  | zero => rfl
  | succ n ih => rw [Nat.pow_succ, ih, gsum_s]; omega
theorem gsum_add (a b : Nat) : gsum (a + b) = 5 ^ b * gsum a + gsum b := by
  have h := five_pow (a + b)
  rw [Nat.pow_add, five_pow a, five_pow b] at h
  rw [five_pow b]
  have e1 : (4 * gsum a + 1) * (4 * gsum b + 1) = 4 * ((4 * gsum b + 1) * gsum a + gsum b) + 1 := by
    simp only [Nat.mul_add, Nat.add_mul, Nat.mul_one, Nat.one_mul]
    have : 4 * gsum a * (4 * gsum b) = 4 * (4 * gsum b * gsum a) := by
      rw [Nat.mul_comm (4 * gsum b) (gsum a), Nat.mul_assoc]
    omega
  omega
theorem gsum_par (n : Nat) : gsum n % 2 = n % 2 := by
  induction n with
  | zero => rfl
  | succ n ih => rw [gsum_s]; omega
theorem gsum_two (e : Nat) : gsum (2 * e) = gsum e * (2 * (2 * gsum e + 1)) := by
  have h : 2 * e = e + e := by omega
  rw [h, gsum_add, five_pow]
  have e2 : gsum e * (2 * (2 * gsum e + 1)) = 4 * gsum e * gsum e + 2 * gsum e := by
    rw [Nat.mul_comm]
    simp only [Nat.mul_add, Nat.add_mul, Nat.mul_one]
    have : 2 * (2 * gsum e) * gsum e = 4 * gsum e * gsum e := by rw [← Nat.mul_assoc 2 2]
    omega
  rw [e2, Nat.add_mul, Nat.one_mul]
  omega
theorem odd_cop (k c : Nat) (h : c % 2 = 1) : Nat.Coprime (2 ^ k) c := by
  refine Nat.Coprime.pow_left k ?_
  rw [Nat.coprime_iff_gcd_eq_one]
  have d1 := Nat.gcd_dvd_left 2 c
  have d2 := Nat.gcd_dvd_right 2 c
  have hle : Nat.gcd 2 c ≤ 2 := Nat.le_of_dvd (by decide) d1
  have hpos : 0 < Nat.gcd 2 c := Nat.gcd_pos_of_pos_left _ (by decide)
  rcases Nat.lt_or_ge (Nat.gcd 2 c) 2 with l | l
  · omega
  · have e : Nat.gcd 2 c = 2 := by omega
    rw [e] at d2
    omega
theorem gsum_dvd : ∀ (k d : Nat), 2 ^ k ∣ gsum d → 2 ^ k ∣ d
  | 0, d, _ => by simp
  | k + 1, d, h => by
    have h2 : 2 ∣ gsum d := Nat.dvd_trans ⟨2 ^ k, by rw [Nat.pow_succ, Nat.mul_comm]⟩ h
    have hp := gsum_par d
    obtain ⟨e, rfl⟩ : ∃ e, d = 2 * e := ⟨d / 2, by omega⟩
    rw [gsum_two] at h
    have h3 : 2 ^ k ∣ gsum e * (2 * gsum e + 1) := by
      obtain ⟨q, hq⟩ := h
      refine ⟨q, ?_⟩
      have e1 : gsum e * (2 * (2 * gsum e + 1)) = 2 * (gsum e * (2 * gsum e + 1)) := by
        rw [← Nat.mul_assoc, Nat.mul_comm (gsum e) 2, Nat.mul_assoc]
      rw [e1, Nat.pow_succ, Nat.mul_comm (2 ^ k) 2, Nat.mul_assoc] at hq
      exact Nat.eq_of_mul_eq_mul_left (by decide) hq
    have h4 := gsum_dvd k e ((odd_cop k _ (by omega)).dvd_of_dvd_mul_right h3)
    rw [Nat.pow_succ, Nat.mul_comm]
    exact Nat.mul_dvd_mul_left 2 h4
theorem lcgI_val (m i : Nat) : ∀ n, lcgI m i n % (m + 1) = (5 ^ n * i + gsum n) % (m + 1)
  | 0 => by
    show i % (m + 1) = (5 ^ 0 * i + 0) % (m + 1)
    simp
  | n + 1 => by
    show (lcgI m i n * 5 + 1) % (m + 1) % (m + 1) = _
    have ih := lcgI_val m i n
    rw [Nat.mod_mod]
    have e : 5 ^ (n + 1) * i + gsum (n + 1) = (5 ^ n * i + gsum n) * 5 + 1 := by
      rw [gsum_s, Nat.pow_succ, Nat.mul_assoc, Nat.mul_comm 5 i, ← Nat.mul_assoc]
      omega
    rw [e, Nat.add_mod, Nat.mul_mod, ih, ← Nat.mul_mod, ← Nat.add_mod]
theorem lcgI_lt {m i : Nat} (hi : i ≤ m) : ∀ n, lcgI m i n < m + 1
  | 0 => Nat.lt_succ_of_le hi
  | n + 1 => Nat.mod_lt _ (Nat.succ_pos _)
theorem lcgI_ne {m k i : Nat} (hm : m + 1 = 2 ^ k) (hi : i ≤ m) {a d : Nat} (hd : 0 < d) (hd2 : d < m + 1) : lcgI m i a ≠ lcgI m i (a + d) := by
  intro e
  have l1 := lcgI_val m i a
  have l2 := lcgI_val m i (a + d)
  rw [← e, l1] at l2
  have ea : 5 ^ (a + d) * i + gsum (a + d) = (5 ^ a * i + gsum a) + 5 ^ a * (gsum d * (4 * i + 1)) := by
    rw [Nat.add_comm a d, gsum_add, Nat.pow_add, five_pow d]
    have q1 : 5 ^ a * (gsum d * (4 * i + 1)) = 5 ^ a * gsum d * (4 * i) + 5 ^ a * gsum d := by
      rw [Nat.mul_add, Nat.mul_add, Nat.mul_one, Nat.mul_assoc]
    have q2 : (4 * gsum d + 1) * 5 ^ a * i = 5 ^ a * gsum d * (4 * i) + 5 ^ a * i := by
      rw [Nat.add_mul, Nat.add_mul, Nat.one_mul]
      congr 1
      rw [Nat.mul_comm (4 * gsum d) (5 ^ a), Nat.mul_assoc, Nat.mul_assoc, Nat.mul_assoc, Nat.mul_comm (gsum d) i, Nat.mul_comm (gsum d) (4 * i), Nat.mul_assoc]
    omega
  rw [ea, hm] at l2
  have dv : 2 ^ k ∣ 5 ^ a * (gsum d * (4 * i + 1)) := by
    have z := Nat.sub_mod_eq_zero_of_mod_eq l2.symm
    rw [Nat.add_sub_cancel_left] at z
    exact Nat.dvd_of_mod_eq_zero z
  have c5 : Nat.Coprime (2 ^ k) (5 ^ a) := odd_cop k _ (by have := five_pow a; omega)
  have d1 := c5.dvd_of_dvd_mul_left dv
  have d2 := (odd_cop k _ (by omega)).dvd_of_dvd_mul_right d1
  have d3 := Nat.le_of_dvd hd (gsum_dvd k d d2)
  omega
theorem lcgI_every {m k i j : Nat} (hm : m + 1 = 2 ^ k) (hi : i ≤ m) (hj : j ≤ m) : ∃ n, n ≤ m ∧ lcgI m i n = j := by
  rcases Classical.em (∃ n, n ≤ m ∧ lcgI m i n = j) with c | c
  · exact c
  · exfalso
    have nd : ((List.range (m + 1)).map (lcgI m i)).Nodup := by
      refine List.pairwise_map.mpr (List.Pairwise.imp_of_mem (fun {x y} hx hy h => ?_) List.pairwise_lt_range)
      have hy := List.mem_range.mp hy
      obtain ⟨d, rfl⟩ : ∃ d, y = x + d := ⟨y - x, by omega⟩
      exact lcgI_ne hm hi (by omega) (by omega)
    have nj : (j :: (List.range (m + 1)).map (lcgI m i)).Nodup := List.nodup_cons.mpr ⟨fun hx => by
      obtain ⟨n, hn, e⟩ := List.mem_map.mp hx
      exact c ⟨n, Nat.le_of_lt_succ (List.mem_range.mp hn), e⟩, nd⟩
    have q := nat_nodup_len _ (List.range (m + 1)) nj fun x hx => by
      rcases List.mem_cons.mp hx with e | hx
      · subst e; exact List.mem_range.mpr (Nat.lt_succ_of_le hj)
      · obtain ⟨n, _, e⟩ := List.mem_map.mp hx
        subst e
        exact List.mem_range.mpr (lcgI_lt hi n)
    simp only [List.length_cons, List.length_map, List.length_range] at q
    omega
def Msk (m : Nat) : Prop := m = 7 ∨ m = 31 ∨ m = 127 ∨ m = 511 ∨ m = 2047 ∨ m = 8191
theorem Msk.pow {m : Nat} (h : Msk m) : ∃ k, m + 1 = 2 ^ k := by
  rcases h with e | e | e | e | e | e <;> subst e
  · exact ⟨3, rfl⟩
  · exact ⟨5, rfl⟩
  · exact ⟨7, rfl⟩
  · exact ⟨9, rfl⟩
  · exact ⟨11, rfl⟩
  · exact ⟨13, rfl⟩
theorem Msk.odd {m : Nat} (h : Msk m) : m % 2 = 1 := by
  rcases h with e | e | e | e | e | e <;> subst e <;> rfl
theorem Msk.le {m : Nat} (h : Msk m) : m ≤ 8191 := by
  rcases h with e | e | e | e | e | e <;> omega
theorem way_in (m : Nat) (h : Int) (k : Nat) : way m h k ≤ m := by
  have hi : SetTable.bits h % (m + 1) ≤ m := Nat.le_of_lt_succ (Nat.mod_lt _ (Nat.succ_pos _))
  have r := runEnd_bd hi
  have hs : (runAt m (SetTable.bits h % (m + 1)) (SetTable.bits h)).j + (runAt m (SetTable.bits h % (m + 1)) (SetTable.bits h)).more ≤ m := by
    show SetTable.bits h % (m + 1) + (SetTable.runEnd m (SetTable.bits h % (m + 1)) - SetTable.bits h % (m + 1)) ≤ m
    omega
  exact Nat.le_trans (Nat.le_add_right _ _) (nth_in k _ hs)
/-- each slot begins a run -/
theorem run_gets {m : Nat} (hm : Msk m) (h : Int) {j : Nat} (hj : j ≤ m) : ∃ n, n ≤ m + 12 ∧ runI m (SetTable.bits h) n = j := by
  obtain ⟨k, hk⟩ := hm.pow
  obtain ⟨n, hn, e⟩ := lcgI_every hk (runI_le m (SetTable.bits h) 12) hj
  exact ⟨12 + n, by omega, (runI_tail (bits_lt h) n).trans e⟩
/-- a search comes to each slot -/
theorem way_gets {m : Nat} (hm : Msk m) (h : Int) {j : Nat} (hj : j ≤ m) : ∃ k, k < 10 * SetTable.turns m ∧ way m h k = j := by
  obtain ⟨n, hn, e⟩ := run_gets hm h hj
  obtain ⟨k, hk, e2⟩ := run_nth m (SetTable.bits h) n
  refine ⟨k, by unfold SetTable.turns; omega, ?_⟩
  show (nth m (runAt m (SetTable.bits h % (m + 1)) (SetTable.bits h)) k).j = j
  rw [e2]
  exact e
/-- all slots in use are found again from the hashes of what sits there -/
structure Tbl (t : SetTable) (hs : List Int) : Prop where
  ris : Ris t.place.toList
  dm : t.dummies = #[]
  sz : t.place.size = hs.length
  msk : Msk t.mask
  bd : ∀ x ∈ t.place.toList, x ≤ t.mask
  reach : ∀ (i : Nat) (h : Int) (j : Nat), hs[i]? = some h → t.place.toList[i]? = some j → ∃ k, way t.mask h k = j ∧ ∀ k', k' < k → way t.mask h k' ∈ t.place.toList
section
variable {t : SetTable} {hs : List Int}
theorem Tbl.len (T : Tbl t hs) : t.place.toList.length = hs.length := T.sz
theorem Tbl.stop (T : Tbl t hs) (hl : hs.length ≤ t.mask) (h : Int) : ∃ K, K < 10 * SetTable.turns t.mask ∧ way t.mask h K ∉ t.place.toList ∧ ∀ k, k < K → way t.mask h k ∈ t.place.toList := by
  obtain ⟨j, hj, hn⟩ := st_missing t.place.toList (t.mask + 1) (by rw [T.len]; omega)
  obtain ⟨k, hk, e⟩ := way_gets T.msk h (Nat.le_of_lt_succ hj)
  obtain ⟨K, h1, h2, h3⟩ := st_least (p := fun k => way t.mask h k ∉ t.place.toList) k (by rw [e]; exact hn)
  exact ⟨K, Nat.lt_of_le_of_lt h1 hk, h2, fun k' hk' => Classical.not_not.mp (h3 k' hk')⟩
theorem Tbl.ahead (T : Tbl t hs) {h : Int} {K i j : Nat} (hK : way t.mask h K ∉ t.place.toList) (hi : hs[i]? = some h) (hj : t.place.toList[i]? = some j) : ∃ k, k < K ∧ way t.mask h k = j := by
  obtain ⟨k, e, hb⟩ := T.reach i h j hi hj
  refine ⟨k, Nat.lt_of_not_le fun c => hK ?_, e⟩
  rcases Nat.lt_or_eq_of_le c with c | c
  · exact hb K c
  · rw [c, e]; exact List.mem_of_getElem? hj
/-- one more, at the first free slot of its way -/
theorem Tbl.more (T : Tbl t hs) {h : Int} {K : Nat} (hK : way t.mask h K ∉ t.place.toList) (hb : ∀ k, k < K → way t.mask h k ∈ t.place.toList) :
    ∃ p, t.put (way t.mask h K) = ((t.put (way t.mask h K)).1, p) ∧ p ≤ hs.length ∧ Tbl (t.put (way t.mask h K)).1 (hs.take p ++ h :: hs.drop p) ∧ (t.put (way t.mask h K)).1.fill = hs.length + 1 := by
  have hw := way_in t.mask h K
  generalize ej : way t.mask h K = j at hK hw
  have hp : SetTable.below t.place j ≤ hs.length := by
    rw [← T.sz]
    exact (below_cut T.ris j).1
  have hpl : SetTable.below t.place j ≤ t.place.toList.length := by rw [T.len]; exact hp
  have hpp := put_place t j
  have hsz : (t.put j).1.place.size = hs.length + 1 := by
    have e := congrArg List.length hpp
    rw [len_ins _ hpl, T.len] at e
    exact e
  have old : ∀ {x : Nat}, x ∈ t.place.toList → x ∈ (t.put j).1.place.toList := fun hx => by rw [hpp]; exact mem_ins.2 (.inr hx)
  refine ⟨SetTable.below t.place j, rfl, hp, ⟨ris_insert T.ris fun e => hK (List.mem_of_getElem? (by rw [Array.getElem?_toList]; exact e)), put_dm T.dm j, ?_, T.msk, fun x hx => ?_, fun i h' j' h1 h2 => ?_⟩, ?_⟩
  · rw [len_ins _ hp]; exact hsz
  · rw [hpp] at hx
    rcases mem_ins.1 hx with z | z
    · rw [z]; exact hw
    · exact T.bd x z
  · show ∃ k, way t.mask h' k = j' ∧ ∀ k', k' < k → way t.mask h' k' ∈ (t.put j).1.place.toList
    have from_old : ∀ i, hs[i]? = some h' → t.place.toList[i]? = some j' → ∃ k, way t.mask h' k = j' ∧ ∀ k', k' < k → way t.mask h' k' ∈ (t.put j).1.place.toList := fun i a b => by
      obtain ⟨k, e, z⟩ := T.reach i h' j' a b
      exact ⟨k, e, fun k' hk' => old (z k' hk')⟩
    rw [tins_get hs hp] at h1
    rw [hpp, tins_get _ hpl] at h2
    split at h1
    · rename_i c
      rw [if_pos c] at h2
      exact from_old i h1 h2
    · rename_i c
      rw [if_neg c] at h2
      split at h1
      · rename_i d
        rw [if_pos d] at h2
        cases h1
        cases h2
        exact ⟨K, ej, fun k' hk' => old (hb k' hk')⟩
      · rename_i d
        rw [if_neg d] at h2
        exact from_old _ h1 h2
  · show (t.put j).1.place.size + (t.put j).1.dummies.size = hs.length + 1
    rw [hsz, put_dm T.dm j]
    rfl
end
end BR
set_option Elab.async false
set_option linter.all false
set_option maxRecDepth 100000
set_option maxHeartbeats 2000000
namespace BR
open PySem PySem.Spec PyProof.Rows L2
end BR
set_option Elab.async false
set_option linter.all false
set_option maxRecDepth 100000
set_option maxHeartbeats 2000000
namespace BR
open PySem PySem.Spec PyProof.Rows L2
abbrev kHash (P : Program) (w : World) (k : List Key) : Int := tupleKeyHash (mixKind P w) k
abbrev IsK (P : Program) (w : World) (h : Heap) (k : List Key) (a : Addr) : Prop := IsTupleKey (mixKind P w) h k a
section
variable {P : Program} {w : World} {A : Around} {E : Value → Shared → Prop} {s : Shared}
theorem keys_plain {k : List Key} {vs : List Value} (h : ItemsAre (mixKind P w) k vs) : ∀ v ∈ vs, (∃ i t, v = Value.int i t) ∨ ∃ x t, v = Value.str x t := by
  induction h with
  | nil => exact fun v hv => absurd hv List.not_mem_nil
  | @cons k0 v ks vs h1 _ ih =>
    intro u hu
    rcases List.mem_cons.mp hu with rfl | hu
    · rcases keyIs_shape h1 with ⟨i, t, _, e⟩ | ⟨x, t, _, e⟩
      · exact .inl ⟨i, t, e⟩
      · exact .inr ⟨x, t, e⟩
    · exact ih u hu
theorem noClass_item (n : Nat) {v : Value} (h : (∃ i t, v = Value.int i t) ∨ ∃ x t, v = Value.str x t) : ofAClassStatement n v = pure false := by
  rcases h with ⟨i, t, rfl⟩ | ⟨i, t, rfl⟩ <;> cases n <;> rfl
theorem noClass_key {k : List Key} {b : Addr} {Q : Bool → Shared → Prop} (hk : IsK P w s.heap k b) (h : Q false s) : wpAny (model P w) A (ofAClassStatement 8 (.ref b)) Q E s := by
  have hT := hk.typeIs
  obtain ⟨o, items, n, ho, _, hd, hi⟩ := hk
  unfold ofAClassStatement
  refine wpAny_bind (wpAny_typeOf hT ?_)
  dsimp only
  have e : (("tuple" : String) == "tuple") = true := by decide
  simp only [e, if_true]
  refine wpAny_bind (wpAny_pure ?_)
  simp only [Bool.not_true, Bool.false_eq_true, if_false]
  show wpAny _ _ (seqItems? (.ref b) >>= _) _ _ s
  refine wpAny_bind (wpAny_seqItems ho hd ?_)
  dsimp only
  refine wpAny_bind ?_
  show wpAny _ _ (forIn items _ _) _ _ s
  rw [← Array.forIn_toList]
  refine wpAny_forIn_list _ (fun rest r s' => r.1 = none ∧ s' = s ∧ ∀ v ∈ rest, v ∈ items.toList) _ ?_ ?_ _ _ ⟨rfl, rfl, fun v hv => hv⟩
  · rintro v rest r s' ⟨hr, rfl, hall⟩
    rw [noClass_item _ (keys_plain hi v (hall v List.mem_cons_self))]
    refine wpAny_bind (wpAny_pure ?_)
    simp only [Bool.false_eq_true, if_false]
    exact wpAny_pure ⟨rfl, rfl, fun u hu' => hall u (List.mem_cons_of_mem _ hu')⟩
  · rintro ⟨r1, r2⟩ s' ⟨hr, rfl, _⟩
    cases hr
    exact wpAny_pure h
end
end BR
set_option Elab.async false
set_option linter.all false
set_option maxRecDepth 100000
set_option maxHeartbeats 2000000
namespace BR
open PySem PySem.Spec PyProof.Rows L2
section
variable {P : Program} {w : World} {A : Around} {E : Value → Shared → Prop} {s : Shared}
theorem unseen_key {k : List Key} {b : Addr} {Q : Bool → Shared → Prop} (hk : IsK P w s.heap k b) {ys : List Value} (hy : ∀ y ∈ ys, ∃ k' c, y = Value.ref c ∧ IsK P w s.heap k' c) (h : Q false s) :
    wpAny (model P w) A (searchCouldBeSeen (.ref b) ys) Q E s := by
  unfold searchCouldBeSeen
  refine wpAny_bind ?_
  refine wpAny_forIn_list _ (fun rest r s' => r.1 = none ∧ s' = s ∧ ∀ y ∈ rest, y ∈ ys) _ ?_ ?_ _ _ ⟨rfl, rfl, fun y hy => hy⟩
  · rintro v rest r s' ⟨hr, rfl, hall⟩
    obtain ⟨k', c, rfl, hc⟩ := hy v (hall v List.mem_cons_self)
    have on : r.1 = none ∧ s' = s' ∧ ∀ y ∈ rest, y ∈ ys := ⟨hr, rfl, fun u hu => hall u (List.mem_cons_of_mem _ hu)⟩
    dsimp only
    by_cases hv : (b == c || (carriedByValue (.ref b) && carriedByValue (.ref c))) = true
    · exact wp_if_pos hv (wpAny_pure ⟨rfl, rfl, on.2.2⟩)
    · refine wp_if_neg hv ?_
      refine wpAny_bind (wpAny_eqIsQuiet_tuple hk ?_)
      simp only [Bool.not_true, Bool.false_eq_true, if_false]
      refine wpAny_bind (wpAny_eqIsQuiet_tuple hc ?_)
      simp only [Bool.not_true, Bool.false_eq_true, if_false]
      refine wpAny_bind (noClass_key hk ?_)
      simp only [Bool.false_eq_true, if_false]
      refine wpAny_bind (noClass_key hc ?_)
      simp only [Bool.false_eq_true, if_false]
      exact wpAny_pure ⟨rfl, rfl, on.2.2⟩
  · rintro ⟨r1, r2⟩ s' ⟨hr, rfl, _⟩
    cases hr
    exact wpAny_pure h
/-- the entries of a set: addresses and what stands there -/
def ents (P : Program) (w : World) (L : List (Addr × List Key)) : List (Int × Value) := L.map fun p => (kHash P w p.2, Value.ref p.1)
/-- a set of tuples of ints and texts -/
structure SetM (P : Program) (w : World) (h : Heap) (a : Addr) (L : List (Addr × List Key)) (es : Array (Int × Value)) (ep : Nat) (t : SetTable) : Prop where
  ob : ∃ o, h.get? a = some o ∧ o.ExactSet ∧ o.data = .set es ep t
  rows : es.toList = ents P w L
  tab : Tbl t (L.map fun p => kHash P w p.2)
  nd : (L.map (·.2)).Nodup
  tup : ∀ p ∈ L, IsK P w h p.2 p.1
  led : w.params.followText "set-order" = true ∨ t.led = true
  room : L.length * 5 < t.mask * 3
  few : L.length < 4096
variable {a : Addr} {L : List (Addr × List Key)} {es : Array (Int × Value)} {ep : Nat} {t : SetTable}
theorem ents_size (e : es.toList = ents P w L) : es.size = L.length := by
  have h := congrArg List.length e
  simpa [ents] using h
theorem ents_at (e : es.toList = ents P w L) {i : Nat} {p : Addr × List Key} (h : L[i]? = some p) : es[i]? = some (kHash P w p.2, Value.ref p.1) := by
  rw [← Array.getElem?_toList, e]
  unfold ents
  rw [List.getElem?_map, h]
  rfl
theorem SetM.size (R : SetM P w s.heap a L es ep t) : es.size = L.length := ents_size R.rows
theorem SetM.fits (R : SetM P w s.heap a L es ep t) : t.fits es.size = true := by
  have h1 := R.tab.sz
  rw [List.length_map] at h1
  have h2 := R.size
  have h3 := R.room
  unfold SetTable.fits SetTable.fill
  rw [R.tab.dm, Bool.and_eq_true, beq_iff_eq, decide_eq_true_eq]
  show t.place.size = es.size ∧ t.place.size + 0 ≤ t.mask
  omega
theorem SetM.live (R : SetM P w s.heap a L es ep t) {i j : Nat} (hi : t.place.toList[i]? = some j) : ∃ p, L[i]? = some p := by
  have h1 : i < t.place.toList.length := (List.getElem?_eq_some_iff.mp hi).1
  rw [R.tab.len, List.length_map] at h1
  exact ⟨_, List.getElem?_eq_getElem h1⟩
abbrev hashE (es : Array (Int × Value)) : Nat → Int := fun i => (es[i]?.map (·.1)).getD 0
/-- where the c-th step of a search stands -/
abbrev stand (m : Nat) (h : Int) (c : Nat) : SetTable.Probe := nth m (runAt m (SetTable.bits h % (m + 1)) (SetTable.bits h)) c
theorem stand_dummy (m : Nat) (h : Int) (c : Nat) : (stand m h c).dummy = none := by
  have key : ∀ (n : Nat) (p : SetTable.Probe), p.dummy = none → (nth m p n).dummy = none := by
    intro n
    induction n with
    | zero => exact fun p h => h
    | succ n ih =>
      intro p h
      refine ih _ ?_
      unfold adv
      split <;> exact h
  exact key c _ rfl
theorem stand_on (m : Nat) (h : Int) (c q : Nat) : nth m (stand m h c) q = stand m h (c + q) := (nth_add m c _ q).symm
theorem look_from (R : SetM P w s.heap a L es ep t) {x : Addr} {k : List Key} (hx : IsK P w s.heap k x) (hu : A.units < cLine) {K : Nat} (hKf : K < 10 * SetTable.turns t.mask)
    (hK : way t.mask (kHash P w k) K ∉ t.place.toList) (hKb : ∀ c, c < K → way t.mask (kHash P w k) c ∈ t.place.toList) {Q : SetFound → Shared → Prop}
    (hin : k ∈ L.map (·.2) → Q (.there none) s) (hout : k ∉ L.map (·.2) → Q (.free (way t.mask (kHash P w k) K) false) s) :
    ∀ (f c : Nat) (o : Option SetTable.Probe), o.getD (t.probeStart (kHash P w k)) = stand t.mask (kHash P w k) c → c ≤ K → K - c < f →
      (∀ (i : Nat) p, L[i]? = some p → p.2 = k → ∃ c', c ≤ c' ∧ c' < K ∧ t.place.toList[i]? = some (way t.mask (kHash P w k) c')) →
      wpAny (model P w) A (setSearchFrom a (.ref x) (kHash P w k) true f o) Q E s
  | 0, c, _, _, _, hf, _ => absurd hf (Nat.not_lt_zero _)
  | f + 1, c, st, hst, hc, hf, hre => by
    obtain ⟨o, ho, hex, hd⟩ := R.ob
    generalize eh : kHash P w k = H at *
    have wj : ∀ q, (nth t.mask (stand t.mask H c) q).j = way t.mask H (c + q) := fun q => by rw [stand_on]
    have hashAt : ∀ (i : Nat) p, L[i]? = some p → hashE es i = kHash P w p.2 := fun i p hp => by
      show (es[i]?.map (·.1)).getD 0 = _
      rw [ents_at R.rows hp]
      rfl
    -- what isn't passed yet stands where it was
    have passed : ∀ {q : Nat}, (∀ k' i', k' < q → t.place.toList[i']? = some (nth t.mask (stand t.mask H c) k').j → hashE es i' ≠ H) →
        ∀ {i : Nat} {p : Addr × List Key}, L[i]? = some p → p.2 = k → ∃ c', c + q ≤ c' ∧ c' < K ∧ t.place.toList[i]? = some (way t.mask H c') := fun {q} hno {i p} hp hk => by
      obtain ⟨c', a1, a2, a3⟩ := hre i p hp hk
      refine ⟨c', Nat.le_of_not_lt fun z => hno (c' - c) i (by omega) (by rw [wj, show c + (c' - c) = c' by omega]; exact a3) ?_, a2, a3⟩
      rw [hashAt i p hp, hk]
      exact eh
    rw [setSearchFrom_succ]
    refine wpAny_bind (wpAny_setState_of ho hd R.fits ?_)
    dsimp only
    refine wp_if_neg (by unfold SetTable.gaveWay; rw [R.tab.msk.odd]; decide) ?_
    try refine wpAny_bind (wpAny_pure ?_)
    have pr : t.probe (hashE es) H (st.getD (t.probeStart H)) = SetTable.probe.go t (hashE es) H (10 * SetTable.turns t.mask) (stand t.mask H c) := by
      rw [hst]
      rfl
    rw [pr]
    rcases go_spec t R.tab.ris R.tab.dm (hashE es) H (10 * SetTable.turns t.mask) (K - c) _ (stand_dummy t.mask H c) (by omega)
      (fun q hq => by rw [wj]; exact hKb (c + q) (by omega)) (by rw [wj, show c + (K - c) = K by omega]; exact hK) with ⟨q, i, hq, hi, hh, hno, e⟩ | ⟨hno, e⟩
    · rw [e]
      dsimp only
      rw [wj] at hi ⊢
      rw [stand_on]
      obtain ⟨p, hp⟩ := R.live hi
      have hmem : p ∈ L := List.mem_of_getElem? hp
      have rest : wpAny (model P w) A (searchRest a (.ref x) H true f es t (way t.mask H (c + q)) i (stand t.mask H (c + (q + 1)))) Q E s := by
        unfold searchRest
        rw [ents_at R.rows hp]
        dsimp only
        refine wpAny_bind (wpAny_holding (wpAny_eqBool_tuple hu (R.tup p hmem) hx ?_))
        refine wpAny_bind (wpAny_setState_of ho hd R.fits ?_)
        dsimp only
        by_cases hkk : p.2 = k
        · exact wp_if_pos (by simp [hkk]) (wpAny_pure (hin (List.mem_map.mpr ⟨p, hmem, hkk⟩)))
        · refine wp_if_neg (by simp [hkk]) ?_
          try refine wpAny_bind (wpAny_pure ?_)
          rw [sameMem]
          dsimp only
          have hsl : t.slot (way t.mask H (c + q)) = .live i := slot_live R.tab.ris hi
          simp only [if_true, hsl, ents_at R.rows hp]
          refine wpAny_bind (wpAny_isSame_ref_self (wpAny_bind (wpAny_pure ?_)))
          simp only [if_true]
          refine wp_if_neg (by simp [hkk]) ?_
          rw [← eh]
          refine look_from R hx hu hKf (by rw [eh]; exact hK) (by rw [eh]; exact hKb) hin (by rw [eh]; exact hout) f (c + (q + 1)) _ (by rw [eh]; rfl) (by omega) (by omega) fun i0 p0 h0 hk0 => ?_
          rw [eh]
          obtain ⟨c', a1, a2, a3⟩ := passed hno h0 hk0
          refine ⟨c', ?_, a2, a3⟩
          rcases Nat.lt_or_eq_of_le a1 with y | y
          · omega
          · exfalso
            rw [← y] at a3
            have s0 := slot_live R.tab.ris a3
            rw [hsl] at s0
            injection s0 with s0
            rw [← s0, hp] at h0
            exact hkk ((congrArg Prod.snd (Option.some.inj h0)).trans hk0)
      by_cases hl : t.led = true
      · refine wp_if_neg (by simp [hl]) ?_
        try refine wpAny_bind (wpAny_pure ?_)
        exact rest
      · refine wp_if_pos (by simp [hl]) ?_
        refine wpAny_bind (unseen_key hx (fun y hy => ?_) ?_)
        · obtain ⟨e, he, ee⟩ := List.mem_map.mp hy
          have he1 : e ∈ es ∧ e.1 = H := by simpa using he
          have he2 : e ∈ es.toList := by simpa using he1.1
          rw [R.rows] at he2
          obtain ⟨p2, hp2, e2⟩ := List.mem_map.mp he2
          exact ⟨p2.2, p2.1, by rw [← ee, ← e2], R.tup p2 hp2⟩
        · refine wp_if_neg (by decide) ?_
          try refine wpAny_bind (wpAny_pure ?_)
          exact rest
    · rw [e]
      dsimp only
      rw [wj, show c + (K - c) = K by omega]
      refine wpAny_pure (hout fun hm => ?_)
      obtain ⟨p0, h0, hk0⟩ := List.mem_map.mp hm
      obtain ⟨i0, hi0, e0⟩ := List.getElem_of_mem h0
      obtain ⟨c', a1, a2, _⟩ := passed hno (i := i0) (p := p0) (by rw [List.getElem?_eq_getElem hi0, e0]) hk0
      omega
theorem look (R : SetM P w s.heap a L es ep t) {x : Addr} {k : List Key} (hx : IsK P w s.heap k x) (hu : A.units < cLine) {Q : SetFound → Shared → Prop}
    (hin : k ∈ L.map (·.2) → Q (.there none) s)
    (hout : ∀ K, k ∉ L.map (·.2) → way t.mask (kHash P w k) K ∉ t.place.toList → (∀ c, c < K → way t.mask (kHash P w k) c ∈ t.place.toList) → Q (.free (way t.mask (kHash P w k) K) false) s) :
    wpAny (model P w) A (setSearch a (.ref x) (kHash P w k) true) Q E s := by
  have hroom := R.room
  have hml := R.tab.msk.le
  obtain ⟨K, hKf, hK, hKb⟩ := R.tab.stop (by rw [List.length_map]; omega) (kHash P w k)
  unfold setSearch
  refine look_from R hx hu hKf hK hKb hin (fun hn => hout K hn hK hKb) 100000 0 none rfl (Nat.zero_le _) (by unfold SetTable.turns at hKf; omega) fun i p hp hk => ?_
  have hi : (L.map fun p => kHash P w p.2)[i]? = some (kHash P w k) := by rw [List.getElem?_map, hp, ← hk]; rfl
  have hil : i < t.place.toList.length := by
    rw [R.tab.len, List.length_map]
    exact (List.getElem?_eq_some_iff.mp hp).1
  have hj := List.getElem?_eq_getElem hil
  obtain ⟨c, hc, e⟩ := R.tab.ahead hK hi hj
  exact ⟨c, Nat.zero_le _, hc, by rw [hj, e]⟩
end
end BR
set_option Elab.async false
set_option linter.all false
set_option maxRecDepth 100000
set_option maxHeartbeats 2000000
namespace BR
open PySem PySem.Spec PyProof.Rows L2
end BR
set_option Elab.async false
set_option linter.all false
set_option maxRecDepth 100000
set_option maxHeartbeats 3200000
namespace BR
open PySem PySem.Spec PyProof.Rows L2
/-- what a set holds of the first i tuples -/
structure Has1 (ks : List (Addr × List Key)) (i : Nat) (L : List (Addr × List Key)) : Prop where
  sub : ∀ p ∈ L, p ∈ ks
  all : ∀ p ∈ ks.take i, p.2 ∈ L.map (·.2)
  len : L.length ≤ i
section
variable {ks L L' : List (Addr × List Key)} {i : Nat} {x : Addr × List Key}
theorem Has1.next (g : Has1 ks i L) (h : ks[i]? = some x) (c1 : x.2 ∈ L.map (·.2) → L' = L) (c2 : x.2 ∉ L.map (·.2) → L'.Perm (x :: L)) : Has1 ks (i + 1) L' := by
  have ht : ks.take (i + 1) = ks.take i ++ [x] := by rw [List.take_succ, h]; rfl
  have hl := g.len
  rcases Classical.em (x.2 ∈ L.map (·.2)) with c | c
  · rw [c1 c]
    refine ⟨g.sub, fun p hp => ?_, Nat.le_succ_of_le hl⟩
    rw [ht] at hp
    rcases List.mem_append.mp hp with z | z
    · exact g.all p z
    · rw [List.mem_singleton.mp z]; exact c
  · have pm := c2 c
    refine ⟨fun p hp => ?_, fun p hp => ?_, by rw [pm.length_eq]; exact Nat.succ_le_succ hl⟩
    · rcases List.mem_cons.mp (pm.mem_iff.mp hp) with e | z
      · rw [e]; exact List.mem_of_getElem? h
      · exact g.sub p z
    · rw [(pm.map (·.2)).mem_iff, List.map_cons]
      rw [ht] at hp
      rcases List.mem_append.mp hp with z | z
      · exact List.mem_cons_of_mem _ (g.all p z)
      · rw [List.mem_singleton.mp z]; exact List.mem_cons_self
end
section
variable {P : Program} {w : World} {A : Around} {E : Value → Shared → Prop} {s : Shared}
theorem SetM.keep {h h' : Heap} {a : Addr} {L : List (Addr × List Key)} {es : Array (Int × Value)} {ep : Nat} {t : SetTable} (R : SetM P w h a L es ep t) (ha : ∀ o, h.get? a = some o → h'.get? a = some o) (ht : ∀ p ∈ L, IsK P w h' p.2 p.1) : SetM P w h' a L es ep t := by
  obtain ⟨o, ho, r⟩ := R.ob
  exact ⟨⟨o, ha o ho, r⟩, R.rows, R.tab, R.nd, ht, R.led, R.room, R.few⟩
end
end BR
set_option Elab.async false
set_option linter.all false
set_option maxRecDepth 100000
set_option maxHeartbeats 3200000
namespace BR
open PySem PySem.Spec PyProof.Rows L2
end BR
set_option Elab.async false
set_option linter.all false
set_option maxRecDepth 100000
set_option maxHeartbeats 2000000
namespace BR
open PySem PySem.Spec PyProof.Rows L2
abbrev IL := Int × List Nat
/-- each once -/
def uniqIS : List IL → List IL
  | [] => []
  | x :: xs => x :: (uniqIS xs).filter fun y => decide (y ≠ x)
/-- the sorted set -/
def setIS (l : List IL) : List IL := isort ltIS (uniqIS l)
def nSortSet : PV → Option PV
  | .lst xs => (pairsIS xs).bind fun l => if l.length < 4096 then some (.lst ((setIS l).map mkIS)) else none
  | _ => none
end BR
set_option Elab.async false
set_option linter.all false
set_option maxRecDepth 100000
set_option maxHeartbeats 2000000
namespace BR
open PySem PySem.Spec PyProof.Rows L2
/-- list(d.items()): a new list of new pairs -/
def fListIt (m : EM) : FM := fun ρ st => (m ρ st).bind fun p st1 => match p with
  | .dct ks vs => .ok (.own ((ks.zip vs).map fun q => .tup [q.1, q.2])) st1
  | _ => .bad
end BR
set_option Elab.async false
set_option linter.all false
set_option maxRecDepth 100000
namespace BP
open BR PySem
/-- is_whole -/
def b64 (call : CallT) : SM := sRet (fVal (eAnd (eOp1 (pIsI ["int"]) (eVar 0)) (eNot (eOp1 (pIsI ["bool"]) (eVar 0)))))
def fn64 : Fn := ⟨1, 1, none, b64⟩
/-- common -/
def b65 (call : CallT) : SM := sSeq (sPar 0 1 (fVal (eOpN nAbs (aCons (eVar 0) (aNil)))) (fVal (eOpN nAbs (aCons (eVar 1) (aNil))))) (sSeq (sWhile (tVal (eOp2 pGt (eVar 1) (eC (.int 0)))) (sPar 0 1 (fVal (eVar 1)) (fVal (eOp2 pSub (eVar 0) (eOp2 pMul (eOp2 pDiv (eVar 0) (eVar 1)) (eVar 1)))))) (sRet (fVal (eVar 0))))
def fn65 : Fn := ⟨2, 2, none, b65⟩
/-- multiple -/
def b66 (call : CallT) : SM := sRet (fVal (eOp2 pMul (eOp2 pDiv (eVar 0) (eFrz (fCall call 65 (aCons (eVar 0) (aCons (eVar 1) (aNil)))))) (eVar 1)))
def fn66 : Fn := ⟨2, 2, none, b66⟩
/-- fraction -/
def b67 (call : CallT) : SM := sSeq (sIf (tVal (eOp2 pLt (eVar 1) (eC (.int 0)))) (sPar 0 1 (fVal (eOp1 pNeg (eVar 0))) (fVal (eOp1 pNeg (eVar 1)))) (sNil)) (sSeq (sSet 2 (fVal (eFrz (fCall call 65 (aCons (eVar 0) (aCons (eVar 1) (aNil))))))) (sRet (fVal (eTup (aCons (eOp2 pDiv (eVar 0) (eVar 2)) (aCons (eOp2 pDiv (eVar 1) (eVar 2)) (aNil)))))))
def fn67 : Fn := ⟨2, 3, none, b67⟩
/-- is_fraction -/
def b68 (call : CallT) : SM := sSeq (sIf (tOr (tNot (tVal (eOp1 (pIsI ["tuple"]) (eVar 0)))) (tOr (tVal (eOp2 pNe (eOp1S nLenS (eVar 0)) (eC (.int 2)))) (tOr (tNot (tVal (eFrz (fCall call 64 (aCons (eOp2S pIdxS (eVar 0) (eC (.int 0))) (aNil)))))) (tNot (tVal (eFrz (fCall call 64 (aCons (eOp2S pIdxS (eVar 0) (eC (.int 1))) (aNil))))))))) (sRet (fVal (eC (.bl false)))) (sNil)) (sRet (fVal (eAnd (eOp2 pGt (eOp2S pIdxS (eVar 0) (eC (.int 1))) (eC (.int 0))) (eOp2 pEq (eFrz (fCall call 65 (aCons (eOp2S pIdxS (eVar 0) (eC (.int 0))) (aCons (eOp2S pIdxS (eVar 0) (eC (.int 1))) (aNil))))) (eC (.int 1))))))
def fn68 : Fn := ⟨1, 1, none, b68⟩
/-- added -/
def b69 (call : CallT) : SM := sRet (fCall call 67 (aCons (eOp2 pAdd (eOp2 pMul (eOp2S pIdxS (eVar 0) (eC (.int 0))) (eOp2S pIdxS (eVar 1) (eC (.int 1)))) (eOp2 pMul (eOp2S pIdxS (eVar 1) (eC (.int 0))) (eOp2S pIdxS (eVar 0) (eC (.int 1))))) (aCons (eOp2 pMul (eOp2S pIdxS (eVar 0) (eC (.int 1))) (eOp2S pIdxS (eVar 1) (eC (.int 1)))) (aNil))))
def fn69 : Fn := ⟨2, 2, none, b69⟩
/-- less -/
def b70 (call : CallT) : SM := sRet (fCall call 67 (aCons (eOp2 pSub (eOp2 pMul (eOp2S pIdxS (eVar 0) (eC (.int 0))) (eOp2S pIdxS (eVar 1) (eC (.int 1)))) (eOp2 pMul (eOp2S pIdxS (eVar 1) (eC (.int 0))) (eOp2S pIdxS (eVar 0) (eC (.int 1))))) (aCons (eOp2 pMul (eOp2S pIdxS (eVar 0) (eC (.int 1))) (eOp2S pIdxS (eVar 1) (eC (.int 1)))) (aNil))))
def fn70 : Fn := ⟨2, 2, none, b70⟩
/-- product -/
def b71 (call : CallT) : SM := sRet (fCall call 67 (aCons (eOp2 pMul (eOp2S pIdxS (eVar 0) (eC (.int 0))) (eOp2S pIdxS (eVar 1) (eC (.int 0)))) (aCons (eOp2 pMul (eOp2S pIdxS (eVar 0) (eC (.int 1))) (eOp2S pIdxS (eVar 1) (eC (.int 1)))) (aNil))))
def fn71 : Fn := ⟨2, 2, none, b71⟩
/-- over -/
def b72 (call : CallT) : SM := sRet (fCall call 67 (aCons (eOp2 pMul (eOp2S pIdxS (eVar 0) (eC (.int 0))) (eOp2S pIdxS (eVar 1) (eC (.int 1)))) (aCons (eOp2 pMul (eOp2S pIdxS (eVar 0) (eC (.int 1))) (eOp2S pIdxS (eVar 1) (eC (.int 0)))) (aNil))))
def fn72 : Fn := ⟨2, 2, none, b72⟩
/-- is_less -/
def b73 (call : CallT) : SM := sRet (fVal (eOp2 pLt (eOp2 pMul (eOp2S pIdxS (eVar 0) (eC (.int 0))) (eOp2S pIdxS (eVar 1) (eC (.int 1)))) (eOp2 pMul (eOp2S pIdxS (eVar 1) (eC (.int 0))) (eOp2S pIdxS (eVar 0) (eC (.int 1))))))
def fn73 : Fn := ⟨2, 2, none, b73⟩
/-- floor -/
def b74 (call : CallT) : SM := sRet (fVal (eOp2 pDiv (eOp2S pIdxS (eVar 0) (eC (.int 0))) (eOp2S pIdxS (eVar 0) (eC (.int 1)))))
def fn74 : Fn := ⟨1, 1, none, b74⟩
/-- ceiling -/
def b75 (call : CallT) : SM := sRet (fVal (eOp1 pNeg (eOp2 pDiv (eOp1 pNeg (eOp2S pIdxS (eVar 0) (eC (.int 0)))) (eOp2S pIdxS (eVar 0) (eC (.int 1))))))
def fn75 : Fn := ⟨1, 1, none, b75⟩
/-- round_of -/
def b76 (call : CallT) : SM := sSeq (sSet 2 (fVal (eFrz (fCall call 66 (aCons (eOp2S pIdxS (eVar 0) (eC (.int 1))) (aCons (eOp2S pIdxS (eVar 1) (eC (.int 1))) (aNil))))))) (sRet (fCall call 67 (aCons (eFrz (fCall call 66 (aCons (eOp2 pMul (eOp2S pIdxS (eVar 0) (eC (.int 0))) (eOp2 pDiv (eVar 2) (eOp2S pIdxS (eVar 0) (eC (.int 1))))) (aCons (eOp2 pMul (eOp2S pIdxS (eVar 1) (eC (.int 0))) (eOp2 pDiv (eVar 2) (eOp2S pIdxS (eVar 1) (eC (.int 1))))) (aNil))))) (aCons (eVar 2) (aNil)))))
def fn76 : Fn := ⟨2, 3, none, b76⟩
/-- beyond -/
def b77 (call : CallT) : SM := sRet (fCall call 70 (aCons (eVar 0) (aCons (eFrz (fCall call 71 (aCons (eVar 1) (aCons (eTup (aCons (eFrz (fCall call 74 (aCons (eFrz (fCall call 72 (aCons (eVar 0) (aCons (eVar 1) (aNil))))) (aNil)))) (aCons (eC (.int 1)) (aNil)))) (aNil))))) (aNil))))
def fn77 : Fn := ⟨2, 2, none, b77⟩
/-- in_order -/
def b78 (call : CallT) : SM := sSeq (sSet 1 (fVal (eC (.int 1)))) (sSeq (sFor (wItems (eVar 0)) (gTup [gName 3, gName 4]) (sSet 1 (fVal (eFrz (fCall call 66 (aCons (eVar 1) (aCons (eOp2S pIdxS (eVar 3) (eC (.int 1))) (aNil)))))))) (sSeq (sSet 2 (fVal (eOpN nSortIS (aCons (eFrz (fLc (wItems (eVar 0)) [3, 4] (gTup [gName 3, gName 4]) (tYes) (eTup (aCons (eOp2 pMul (eOp2S pIdxS (eVar 3) (eC (.int 0))) (eOp2 pDiv (eVar 1) (eOp2S pIdxS (eVar 3) (eC (.int 1))))) (aCons (eVar 4) (aNil)))))) (aNil))))) (sRet (fLc (wItems (eVar 2)) [5, 4] (gTup [gName 5, gName 4]) (tYes) (eTup (aCons (eFrz (fCall call 67 (aCons (eVar 5) (aCons (eVar 1) (aNil))))) (aCons (eVar 4) (aNil))))))))
def fn78 : Fn := ⟨1, 6, none, b78⟩
/-- Reader___init__ -/
def b79 (call : CallT) : SM := sSeq (sSelf 2 0 "whole" (eVar 1)) (sSelf 2 0 "at" (eC (.int 0)))
def fn79 : Fn := ⟨1, 2, some 2, b79⟩
/-- Reader_refuse -/
def b80 (call : CallT) : SM := sRaise1 3 "at" (eAttr 2 "at" (eVar 0))
def fn80 : Fn := ⟨1, 1, none, b80⟩
/-- Reader_peek -/
def b81 (call : CallT) : SM := sSeq (sWhile (tAnd (tVal (eOp2 pEq (eCutS (eAttr 2 "whole" (eVar 0)) (oSome (eAttr 2 "at" (eVar 0))) (oSome (eOp2 pAdd (eAttr 2 "at" (eVar 0)) (eC (.int 1))))) (eC (.str [32])))) (tVal (eOp2 pLt (eAttr 2 "at" (eVar 0)) (eC (.int 60))))) (sAttrAug pAddI 2 "at" (eVar 0) (eC (.int 1)))) (sSeq (sIf (tAnd (tVal (eOp2 pEq (eAttr 2 "at" (eVar 0)) (eC (.int 60)))) (tVal (eOp2 pGt (eOp1S nLenS (eAttr 2 "whole" (eVar 0))) (eC (.int 60))))) (sDrop (eFrz (fMeth call 80 2 "refuse" (eVar 0) aNil))) (sNil)) (sRet (fVal (eCutS (eAttr 2 "whole" (eVar 0)) (oSome (eAttr 2 "at" (eVar 0))) (oSome (eOp2 pAdd (eAttr 2 "at" (eVar 0)) (eC (.int 1))))))))
def fn81 : Fn := ⟨1, 1, none, b81⟩
/-- Reader_take -/
def b82 (call : CallT) : SM := sSeq (sSet 2 (fVal (eFrz (fMeth call 81 2 "peek" (eVar 0) aNil)))) (sSeq (sIf (tOr (tVal (eOp2 pEq (eVar 2) (eC (.str [])))) (tVal (eOp2 pNotIn (eVar 2) (eVar 1)))) (sDrop (eFrz (fMeth call 80 2 "refuse" (eVar 0) aNil))) (sNil)) (sSeq (sAttrAug pAddI 2 "at" (eVar 0) (eC (.int 1))) (sRet (fVal (eVar 2)))))
def fn82 : Fn := ⟨2, 3, none, b82⟩
/-- Reader_digit -/
def b83 (call : CallT) : SM := sRet (fVal (eOpN nInt (aCons (eFrz (fMeth call 82 2 "take" (eVar 0) (aCons (eCutS (eC (.str [49, 50, 51, 52, 53, 54, 55, 56, 57])) (oSome (eOp2 pSub (eVar 1) (eC (.int 1)))) (oNone)) (aNil)))) (aNil))))
def fn83 : Fn := ⟨2, 2, none, b83⟩
/-- Reader_item -/
def b84 (call : CallT) : SM := sSeq (sSet 2 (fVal (eFrz (fMeth call 85 2 "core" (eVar 0) (aCons (eVar 1) (aNil)))))) (sSeq (sWhile (tAnd (tVal (eOp2 pNe (eFrz (fMeth call 81 2 "peek" (eVar 0) aNil)) (eC (.str [])))) (tVal (eOp2 pIn (eFrz (fMeth call 81 2 "peek" (eVar 0) aNil)) (eC (.str [42, 62, 126, 33]))))) (sSet 2 (fVal (eFrz (fMeth call 86 2 "with_tail" (eVar 0) (aCons (eVar 2) (aCons (eVar 1) (aNil)))))))) (sRet (fVal (eVar 2))))
def fn84 : Fn := ⟨2, 3, none, b84⟩
/-- Reader_core -/
def b85 (call : CallT) : SM := sSeq (sSet 2 (fVal (eFrz (fMeth call 82 2 "take" (eVar 0) (aCons (eIf (tVal (eOp2 pEq (eVar 1) (eC (.int 8)))) (eCutS (eC (.str [97, 98, 99, 100, 45, 91, 123, 40])) (oNone) (oSome (eC (.int 5)))) (eC (.str [97, 98, 99, 100, 45, 91, 123, 40]))) (aNil)))))) (sSeq (sIf (tVal (eOp2 pIn (eVar 2) (eC (.str [97, 98, 99, 100])))) (sRet (fVal (eTup (aCons (eC (.str [115, 116, 114, 111, 107, 101])) (aCons (eVar 2) (aNil)))))) (sNil)) (sSeq (sIf (tVal (eOp2 pEq (eVar 2) (eC (.str [45])))) (sRet (fVal (eTup (aCons (eC (.str [114, 101, 115, 116])) (aCons (eC (.str [])) (aNil)))))) (sNil)) (sSeq (sSet 3 (fLst (aCons (eFrz (fMeth call 84 2 "item" (eVar 0) (aCons (eOp2 pAdd (eVar 1) (eC (.int 1))) (aNil)))) (aNil)))) (sSeq (sWhile (tAnd (tVal (eOp2 pNe (eFrz (fMeth call 81 2 "peek" (eVar 0) aNil)) (eC (.str [])))) (tVal (eOp2 pIn (eFrz (fMeth call 81 2 "peek" (eVar 0) aNil)) (eC (.str [97, 98, 99, 100, 45, 91, 123, 40]))))) (sApp 3 (eFrz (fMeth call 84 2 "item" (eVar 0) (aCons (eOp2 pAdd (eVar 1) (eC (.int 1))) (aNil)))))) (sSeq (sDrop (eFrz (fMeth call 82 2 "take" (eVar 0) (aCons (eTab [([91], [93]), ([123], [125]), ([40], [41])] (eVar 2)) (aNil))))) (sRet (fVal (eTup (aCons (eTab [([91], [114, 111, 119]), ([123], [115, 116, 97, 99, 107]), ([40], [116, 117, 114, 110, 115])] (eVar 2)) (aCons (eTupOwn 3) (aNil)))))))))))
def fn85 : Fn := ⟨2, 4, none, b85⟩
/-- Reader_with_tail -/
def b86 (call : CallT) : SM := sSeq (sSet 3 (fVal (eFrz (fMeth call 82 2 "take" (eVar 0) (aCons (eC (.str [42, 62, 126, 33])) (aNil)))))) (sSeq (sIf (tVal (eOp2 pEq (eVar 3) (eC (.str [42])))) (sSeq (sSet 4 (fVal (eFrz (fMeth call 83 2 "digit" (eVar 0) (aCons (eC (.int 1)) (aNil)))))) (sSeq (sDrop (eFrz (fMeth call 82 2 "take" (eVar 0) (aCons (eC (.str [47])) (aNil))))) (sRet (fVal (eTup (aCons (eC (.str [113, 117, 105, 99, 107])) (aCons (eVar 1) (aCons (eVar 4) (aCons (eFrz (fMeth call 83 2 "digit" (eVar 0) (aCons (eC (.int 1)) (aNil)))) (aNil)))))))))) (sNil)) (sSeq (sIf (tVal (eOp2 pEq (eVar 3) (eC (.str [62])))) (sSeq (sSet 5 (fVal (eFrz (fMeth call 83 2 "digit" (eVar 0) (aCons (eC (.int 1)) (aNil)))))) (sSeq (sIf (tVal (eOp2 pEq (eVar 5) (eC (.int 9)))) (sSeq (sAttrAug pSub 2 "at" (eVar 0) (eC (.int 1))) (sDrop (eFrz (fMeth call 80 2 "refuse" (eVar 0) aNil)))) (sNil)) (sSeq (sDrop (eFrz (fMeth call 82 2 "take" (eVar 0) (aCons (eC (.str [47])) (aNil))))) (sRet (fVal (eTup (aCons (eC (.str [108, 97, 116, 101])) (aCons (eVar 1) (aCons (eVar 5) (aCons (eFrz (fMeth call 83 2 "digit" (eVar 0) (aCons (eOp2 pAdd (eVar 5) (eC (.int 1))) (aNil)))) (aNil))))))))))) (sNil)) (sSeq (sIf (tVal (eOp2 pEq (eVar 3) (eC (.str [126])))) (sRet (fVal (eTup (aCons (eC (.str [102, 114, 97, 109, 101])) (aCons (eVar 1) (aCons (eFrz (fMeth call 83 2 "digit" (eVar 0) (aCons (eC (.int 1)) (aNil)))) (aNil))))))) (sNil)) (sSeq (sSet 4 (fVal (eFrz (fMeth call 83 2 "digit" (eVar 0) (aCons (eC (.int 2)) (aNil)))))) (sRet (fVal (eTup (aCons (eC (.str [101, 97, 99, 104])) (aCons (eVar 1) (aCons (eVar 4) (aCons (eFrz (fMeth call 85 2 "core" (eVar 0) (aCons (eVar 2) (aNil)))) (aNil))))))))))))
def fn86 : Fn := ⟨3, 6, none, b86⟩
/-- tree_of -/
def b87 (call : CallT) : SM := sSeq (sIf (tNot (tVal (eOp1 (pIsI ["str"]) (eVar 0)))) (sRaise1 3 "at" (eC (.int 0))) (sNil)) (sSeq (sSet 1 (fVal (eFrz (fMake call 79 true (aCons (eVar 0) (aNil)))))) (sSeq (sSet 2 (fVal (eFrz (fMeth call 84 2 "item" (eVar 1) (aCons (eC (.int 0)) (aNil)))))) (sSeq (sIf (tVal (eOp2 pNe (eFrz (fMeth call 81 2 "peek" (eVar 1) aNil)) (eC (.str [])))) (sDrop (eFrz (fMeth call 80 2 "refuse" (eVar 1) aNil))) (sNil)) (sRet (fVal (eVar 2))))))
def fn87 : Fn := ⟨1, 3, none, b87⟩
/-- greatest -/
def b88 (call : CallT) : SM := sSeq (sSet 1 (fVal (eOp2S pIdxS (eVar 0) (eC (.int 0))))) (sSeq (sFor (wItems (eVar 0)) (gName 2) (sIf (tVal (eFrz (fCall call 73 (aCons (eVar 1) (aCons (eVar 2) (aNil)))))) (sSet 1 (fVal (eVar 2))) (sNil))) (sRet (fVal (eVar 1))))
def fn88 : Fn := ⟨1, 3, none, b88⟩
/-- size_of -/
def b89 (call : CallT) : SM := sSeq (sMatch (eOp2S pIdxS (eVar 0) (eC (.int 0))) [([[114, 111, 119]], sSeq (sSet 1 (fVal (eTup (aCons (eC (.int 0)) (aCons (eC (.int 1)) (aNil)))))) (sSeq (sFor (wItems (eOp2S pIdxS (eVar 0) (eC (.int 1)))) (gName 2) (sSet 1 (fVal (eFrz (fCall call 69 (aCons (eVar 1) (aCons (eFrz (fCall call 89 (aCons (eVar 2) (aNil)))) (aNil)))))))) (sRet (fVal (eVar 1))))), ([[115, 116, 97, 99, 107]], sSeq (sSet 1 (fVal (eFrz (fCall call 89 (aCons (eOp2S pIdxS (eOp2S pIdxS (eVar 0) (eC (.int 1))) (eC (.int 0))) (aNil)))))) (sSeq (sFor (wItems (eOp2S pIdxS (eVar 0) (eC (.int 1)))) (gName 2) (sSet 1 (fVal (eFrz (fCall call 76 (aCons (eVar 1) (aCons (eFrz (fCall call 89 (aCons (eVar 2) (aNil)))) (aNil)))))))) (sRet (fVal (eVar 1))))), ([[116, 117, 114, 110, 115]], sRet (fCall call 88 (aCons (eFrz (fLc (wItems (eOp2S pIdxS (eVar 0) (eC (.int 1)))) [2] (gName 2) (tYes) (eFrz (fCall call 89 (aCons (eVar 2) (aNil)))))) (aNil)))), ([[101, 97, 99, 104]], sRet (fCall call 88 (aCons (eFrz (fLst (aCons (eFrz (fCall call 89 (aCons (eOp2S pIdxS (eVar 0) (eC (.int 1))) (aNil)))) (aCons (eFrz (fCall call 89 (aCons (eOp2S pIdxS (eVar 0) (eC (.int 3))) (aNil)))) (aNil))))) (aNil)))), ([[113, 117, 105, 99, 107]], sRet (fCall call 71 (aCons (eFrz (fCall call 89 (aCons (eOp2S pIdxS (eVar 0) (eC (.int 1))) (aNil)))) (aCons (eFrz (fCall call 67 (aCons (eOp2S pIdxS (eVar 0) (eC (.int 3))) (aCons (eOp2S pIdxS (eVar 0) (eC (.int 2))) (aNil))))) (aNil))))), ([[108, 97, 116, 101]], sRet (fCall call 89 (aCons (eOp2S pIdxS (eVar 0) (eC (.int 1))) (aNil)))), ([[102, 114, 97, 109, 101]], sRet (fVal (eTup (aCons (eOp2S pIdxS (eVar 0) (eC (.int 2))) (aCons (eC (.int 1)) (aNil))))))]) (sRet (fVal (eTup (aCons (eC (.int 1)) (aCons (eC (.int 1)) (aNil))))))
def fn89 : Fn := ⟨1, 3, none, b89⟩
/-- turns_of -/
def b90 (call : CallT) : SM := sSeq (sMatch (eOp2S pIdxS (eVar 0) (eC (.int 0))) [([[114, 111, 119], [115, 116, 97, 99, 107], [116, 117, 114, 110, 115]], sSeq (sSet 1 (fVal (eC (.int 1)))) (sSeq (sFor (wItems (eOp2S pIdxS (eVar 0) (eC (.int 1)))) (gName 2) (sSet 1 (fVal (eFrz (fCall call 66 (aCons (eVar 1) (aCons (eFrz (fCall call 90 (aCons (eVar 2) (aNil)))) (aNil)))))))) (sRet (fVal (eIf (tVal (eOp2 pEq (eOp2S pIdxS (eVar 0) (eC (.int 0))) (eC (.str [116, 117, 114, 110, 115])))) (eOp2 pMul (eVar 1) (eOp1S nLenS (eOp2S pIdxS (eVar 0) (eC (.int 1))))) (eVar 1)))))), ([[101, 97, 99, 104]], sRet (fVal (eOp2 pMul (eOp2S pIdxS (eVar 0) (eC (.int 2))) (eFrz (fCall call 66 (aCons (eFrz (fCall call 90 (aCons (eOp2S pIdxS (eVar 0) (eC (.int 1))) (aNil)))) (aCons (eFrz (fCall call 90 (aCons (eOp2S pIdxS (eVar 0) (eC (.int 3))) (aNil)))) (aNil)))))))), ([[113, 117, 105, 99, 107], [108, 97, 116, 101]], sRet (fCall call 90 (aCons (eOp2S pIdxS (eVar 0) (eC (.int 1))) (aNil))))]) (sRet (fVal (eC (.int 1))))
def fn90 : Fn := ⟨1, 3, none, b90⟩
/-- need_few -/
def b91 (call : CallT) : SM := sIf (tVal (eOp2 pGt (eVar 0) (eC (.int 1000)))) (sRaise1 4 "count" (eVar 0)) (sNil)
def fn91 : Fn := ⟨1, 1, none, b91⟩
/-- moved -/
def b92 (call : CallT) : SM := sRet (fLc (wItems (eVar 0)) [2, 3] (gTup [gName 2, gName 3]) (tYes) (eTup (aCons (eFrz (fCall call 69 (aCons (eVar 2) (aCons (eVar 1) (aNil))))) (aCons (eVar 3) (aNil)))))
def fn92 : Fn := ⟨2, 4, none, b92⟩
/-- once -/
def b93 (call : CallT) : SM := sSeq (sSet 1 (fVal (eFrz (fListD (eDc (wItems (eVar 0)) [2] (gName 2) (tYes) (eVar 2) (eC (.bl true))))))) (sSeq (sDrop (eFrz (fCall call 91 (aCons (eOp1S nLenS (eVar 1)) (aNil))))) (sRet (fVal (eVar 1))))
def fn93 : Fn := ⟨1, 3, none, b93⟩
/-- run_of -/
def b94 (call : CallT) : SM := sSeq (sDrop (eFrz (fCall call 91 (aCons (eVar 2) (aNil))))) (sSeq (sPar 4 5 (fLst (aNil)) (fVal (eFrz (fCall call 89 (aCons (eVar 0) (aNil)))))) (sSeq (sFor (wRng1 (eVar 2)) (gName 3) (sSeq (sExt 4 (eFrz (fCall call 92 (aCons (eFrz (fCall call 99 (aCons (eVar 0) (aCons (eOp2 pAdd (eVar 1) (eVar 3)) (aNil))))) (aCons (eFrz (fCall call 71 (aCons (eVar 5) (aCons (eTup (aCons (eVar 3) (aCons (eC (.int 1)) (aNil)))) (aNil))))) (aNil)))))) (sDrop (eFrz (fCall call 91 (aCons (eLenOwn 4) (aNil))))))) (sRetV 4)))
def fn94 : Fn := ⟨3, 6, none, b94⟩
/-- row_of -/
def b95 (call : CallT) : SM := sSeq (sPar 3 4 (fLst (aNil)) (fVal (eTup (aCons (eC (.int 0)) (aCons (eC (.int 1)) (aNil)))))) (sSeq (sFor (wItems (eVar 0)) (gName 2) (sSeq (sExt 3 (eFrz (fCall call 92 (aCons (eFrz (fCall call 99 (aCons (eVar 2) (aCons (eVar 1) (aNil))))) (aCons (eVar 4) (aNil)))))) (sSet 4 (fVal (eFrz (fCall call 69 (aCons (eVar 4) (aCons (eFrz (fCall call 89 (aCons (eVar 2) (aNil)))) (aNil))))))))) (sRetV 3))
def fn95 : Fn := ⟨2, 5, none, b95⟩
/-- stack_of -/
def b96 (call : CallT) : SM := sSeq (sPar 3 4 (fLst (aNil)) (fVal (eFrz (fCall call 89 (aCons (eVar 0) (aNil)))))) (sSeq (sFor (wItems (eOp2S pIdxS (eVar 0) (eC (.int 1)))) (gName 2) (sSeq (sSet 5 (fVal (eOp2S pIdxS (eFrz (fCall call 72 (aCons (eVar 4) (aCons (eFrz (fCall call 89 (aCons (eVar 2) (aNil)))) (aNil))))) (eC (.int 0))))) (sExt 3 (eFrz (fCall call 94 (aCons (eVar 2) (aCons (eOp2 pMul (eVar 1) (eVar 5)) (aCons (eVar 5) (aNil))))))))) (sRetV 3))
def fn96 : Fn := ⟨2, 6, none, b96⟩
/-- late_of -/
def b97 (call : CallT) : SM := sSeq (sSet 2 (fVal (eFrz (fCall call 89 (aCons (eVar 0) (aNil)))))) (sSeq (sSet 3 (fVal (eFrz (fCall call 71 (aCons (eVar 2) (aCons (eFrz (fCall call 67 (aCons (eOp2S pIdxS (eVar 0) (eC (.int 2))) (aCons (eOp2S pIdxS (eVar 0) (eC (.int 3))) (aNil))))) (aNil))))))) (sRet (fLc (wItems (eFrz (fCall call 99 (aCons (eOp2S pIdxS (eVar 0) (eC (.int 1))) (aCons (eVar 1) (aNil)))))) [4, 5] (gTup [gName 4, gName 5]) (tYes) (eTup (aCons (eFrz (fCall call 77 (aCons (eFrz (fCall call 69 (aCons (eVar 4) (aCons (eVar 3) (aNil))))) (aCons (eVar 2) (aNil))))) (aCons (eVar 5) (aNil)))))))
def fn97 : Fn := ⟨2, 6, none, b97⟩
/-- frame_of -/
def b98 (call : CallT) : SM := sSeq (sSet 1 (fVal (eTup (aCons (eOp2S pIdxS (eVar 0) (eC (.int 2))) (aCons (eC (.int 1)) (aNil)))))) (sSeq (sSet 2 (fVal (eFrz (fCall call 94 (aCons (eOp2S pIdxS (eVar 0) (eC (.int 1))) (aCons (eC (.int 0)) (aCons (eFrz (fCall call 75 (aCons (eFrz (fCall call 72 (aCons (eVar 1) (aCons (eFrz (fCall call 89 (aCons (eOp2S pIdxS (eVar 0) (eC (.int 1))) (aNil)))) (aNil))))) (aNil)))) (aNil)))))))) (sRet (fLc (wItems (eVar 2)) [3, 4] (gTup [gName 3, gName 4]) (tVal (eFrz (fCall call 73 (aCons (eVar 3) (aCons (eVar 1) (aNil)))))) (eTup (aCons (eVar 3) (aCons (eVar 4) (aNil)))))))
def fn98 : Fn := ⟨1, 5, none, b98⟩
/-- turn_of -/
def b99 (call : CallT) : SM := sSeq (sMatch (eOp2S pIdxS (eVar 0) (eC (.int 0))) [([[115, 116, 114, 111, 107, 101]], sRet (fLst (aCons (eTup (aCons (eTup (aCons (eC (.int 0)) (aCons (eC (.int 1)) (aNil)))) (aCons (eOp2S pIdxS (eVar 0) (eC (.int 1))) (aNil)))) (aNil)))), ([[114, 101, 115, 116]], sRet (fLst (aNil))), ([[114, 111, 119]], sRet (fCall call 93 (aCons (eFrz (fCall call 95 (aCons (eOp2S pIdxS (eVar 0) (eC (.int 1))) (aCons (eVar 1) (aNil))))) (aNil)))), ([[115, 116, 97, 99, 107]], sRet (fCall call 93 (aCons (eFrz (fCall call 96 (aCons (eVar 0) (aCons (eVar 1) (aNil))))) (aNil)))), ([[116, 117, 114, 110, 115]], sSeq (sSet 2 (fVal (eOp1S nLenS (eOp2S pIdxS (eVar 0) (eC (.int 1)))))) (sRet (fCall call 99 (aCons (eOp2S pIdxS (eOp2S pIdxS (eVar 0) (eC (.int 1))) (eOp2 pSub (eVar 1) (eOp2 pMul (eOp2 pDiv (eVar 1) (eVar 2)) (eVar 2)))) (aCons (eOp2 pDiv (eVar 1) (eVar 2)) (aNil)))))), ([[101, 97, 99, 104]], sSeq (sSet 3 (fVal (eOp2 pDiv (eVar 1) (eOp2S pIdxS (eVar 0) (eC (.int 2)))))) (sSeq (sIf (tVal (eOp2 pGt (eOp2 pDiv (eOp2 pAdd (eVar 1) (eC (.int 1))) (eOp2S pIdxS (eVar 0) (eC (.int 2)))) (eVar 3))) (sRet (fCall call 99 (aCons (eOp2S pIdxS (eVar 0) (eC (.int 3))) (aCons (eVar 3) (aNil))))) (sNil)) (sRet (fCall call 99 (aCons (eOp2S pIdxS (eVar 0) (eC (.int 1))) (aCons (eOp2 pSub (eVar 1) (eVar 3)) (aNil))))))), ([[113, 117, 105, 99, 107]], sSeq (sSet 4 (fVal (eFrz (fCall call 67 (aCons (eOp2S pIdxS (eVar 0) (eC (.int 3))) (aCons (eOp2S pIdxS (eVar 0) (eC (.int 2))) (aNil))))))) (sRet (fLc (wItems (eFrz (fCall call 99 (aCons (eOp2S pIdxS (eVar 0) (eC (.int 1))) (aCons (eVar 1) (aNil)))))) [5, 6] (gTup [gName 5, gName 6]) (tYes) (eTup (aCons (eFrz (fCall call 71 (aCons (eVar 5) (aCons (eVar 4) (aNil))))) (aCons (eVar 6) (aNil))))))), ([[108, 97, 116, 101]], sRet (fCall call 93 (aCons (eFrz (fCall call 97 (aCons (eVar 0) (aCons (eVar 1) (aNil))))) (aNil))))]) (sRet (fCall call 93 (aCons (eFrz (fCall call 98 (aCons (eVar 0) (aNil)))) (aNil))))
def fn99 : Fn := ⟨2, 7, none, b99⟩
/-- beats_of -/
def b100 (call : CallT) : SM := sSeq (sSet 1 (fLst (aNil))) (sSeq (sFor (wItems (eFrz (fCall call 78 (aCons (eVar 0) (aNil))))) (gTup [gName 2, gName 3]) (sIf (tAnd (tVal (eEmpOwn 1 true)) (tVal (eOp2 pEq (eOp2S pIdxS (eIdxOwn 1 (eOp1 pNeg (eC (.int 1)))) (eC (.int 0))) (eVar 2)))) (sSetIx 1 (eTup (aCons (eVar 2) (aCons (eOp2 pAdd (eOp2S pIdxS (eIdxOwn 1 (eOp1 pNeg (eC (.int 1)))) (eC (.int 1))) (eVar 3)) (aNil)))) (eOp1 pNeg (eC (.int 1)))) (sApp 1 (eTup (aCons (eVar 2) (aCons (eVar 3) (aNil))))))) (sRetV 1))
def fn100 : Fn := ⟨1, 4, none, b100⟩
/-- length -/
def b101 (call : CallT) : SM := sRet (fCall call 89 (aCons (eFrz (fCall call 87 (aCons (eVar 0) (aNil)))) (aNil)))
def fn101 : Fn := ⟨1, 1, none, b101⟩
/-- turns -/
def b102 (call : CallT) : SM := sRet (fCall call 90 (aCons (eFrz (fCall call 87 (aCons (eVar 0) (aNil)))) (aNil)))
def fn102 : Fn := ⟨1, 1, none, b102⟩
/-- strokes -/
def b103 (call : CallT) : SM := sSeq (sSet 3 (fVal (eFrz (fCall call 87 (aCons (eVar 0) (aNil)))))) (sSeq (sIf (tNot (tVal (eFrz (fCall call 73 (aCons (eVar 1) (aCons (eVar 2) (aNil))))))) (sRet (fLst (aNil))) (sNil)) (sSeq (sSet 4 (fVal (eFrz (fCall call 89 (aCons (eVar 3) (aNil)))))) (sSeq (sPar 7 8 (fVal (eFrz (fCall call 74 (aCons (eFrz (fCall call 72 (aCons (eVar 1) (aCons (eVar 4) (aNil))))) (aNil))))) (fVal (eFrz (fCall call 75 (aCons (eFrz (fCall call 72 (aCons (eVar 2) (aCons (eVar 4) (aNil))))) (aNil)))))) (sSeq (sSet 5 (fLst (aNil))) (sSeq (sFor (wRng2 (eVar 7) (eVar 8)) (gName 6) (sFor (wItems (eFrz (fCall call 92 (aCons (eFrz (fCall call 99 (aCons (eVar 3) (aCons (eVar 6) (aNil))))) (aCons (eFrz (fCall call 71 (aCons (eVar 4) (aCons (eTup (aCons (eVar 6) (aCons (eC (.int 1)) (aNil)))) (aNil))))) (aNil)))))) (gTup [gName 9, gName 10]) (sIf (tAnd (tNot (tVal (eFrz (fCall call 73 (aCons (eVar 9) (aCons (eVar 1) (aNil))))))) (tVal (eFrz (fCall call 73 (aCons (eVar 9) (aCons (eVar 2) (aNil))))))) (sApp 5 (eTup (aCons (eVar 9) (aCons (eVar 10) (aNil))))) (sNil)))) (sSeq (sFrz 5) (sRet (fCall call 100 (aCons (eVar 5) (aNil))))))))))
def fn103 : Fn := ⟨3, 11, none, b103⟩
/-- whole_round -/
def b104 (call : CallT) : SM := sSeq (sSet 1 (fVal (eFrz (fCall call 87 (aCons (eVar 0) (aNil)))))) (sSeq (sSet 2 (fVal (eFrz (fCall call 90 (aCons (eVar 1) (aNil)))))) (sRet (fVal (eTup (aCons (eFrz (fCall call 71 (aCons (eFrz (fCall call 89 (aCons (eVar 1) (aNil)))) (aCons (eTup (aCons (eVar 2) (aCons (eC (.int 1)) (aNil)))) (aNil))))) (aCons (eFrz (fCall call 94 (aCons (eVar 1) (aCons (eC (.int 0)) (aCons (eVar 2) (aNil)))))) (aNil)))))))
def fn104 : Fn := ⟨1, 3, none, b104⟩
/-- is_time -/
def b105 (call : CallT) : SM := sRet (fVal (eAnd (eFrz (fCall call 68 (aCons (eVar 0) (aNil)))) (eOp2 pGt (eOp2S pIdxS (eVar 0) (eC (.int 0))) (eC (.int 0)))))
def fn105 : Fn := ⟨1, 1, none, b105⟩
/-- are_letters -/
def b106 (call : CallT) : SM := sSeq (sIf (tOr (tNot (tVal (eOp1 (pIsI ["str"]) (eVar 0)))) (tOr (tVal (eOp2 pEq (eVar 0) (eC (.str [])))) (tNot (tVal (eOpN nAll (aCons (eFrz (fLc (wItems (eVar 0)) [3] (gName 3) (tYes) (eOp2 pIn (eVar 3) (eC (.str [97, 98, 99, 100]))))) (aNil))))))) (sRet (fVal (eC (.bl false)))) (sNil)) (sRet (fVal (eOpN nAll (aCons (eFrz (fLc (wZipS (eVar 0) (eCutS (eVar 0) (oSome (eC (.int 1))) (oNone))) [1, 2] (gTup [gName 1, gName 2]) (tYes) (eOp2 pLt (eVar 1) (eVar 2)))) (aNil)))))
def fn106 : Fn := ⟨1, 4, none, b106⟩
/-- is_beat -/
def b107 (call : CallT) : SM := sSeq (sIf (tOr (tNot (tVal (eOp1 (pIsI ["tuple"]) (eVar 0)))) (tOr (tVal (eOp2 pNe (eOp1S nLenS (eVar 0)) (eC (.int 2)))) (tNot (tVal (eFrz (fCall call 68 (aCons (eOp2S pIdxS (eVar 0) (eC (.int 0))) (aNil)))))))) (sRet (fVal (eC (.bl false)))) (sNil)) (sRet (fVal (eAnd (eOp2 pGe (eOp2S pIdxS (eOp2S pIdxS (eVar 0) (eC (.int 0))) (eC (.int 0))) (eC (.int 0))) (eFrz (fCall call 106 (aCons (eOp2S pIdxS (eVar 0) (eC (.int 1))) (aNil)))))))
def fn107 : Fn := ⟨1, 1, none, b107⟩
/-- are_beats -/
def b108 (call : CallT) : SM := sSeq (sIf (tNot (tVal (eOpN nAll (aCons (eFrz (fLc (wItems (eVar 0)) [2] (gName 2) (tYes) (eFrz (fCall call 107 (aCons (eVar 2) (aNil)))))) (aNil))))) (sRet (fVal (eC (.bl false)))) (sNil)) (sSeq (sIf (tNot (tVal (eOpN nAll (aCons (eFrz (fLc (wZip (eVar 0) (eCutS (eVar 0) (oSome (eC (.int 1))) (oNone))) [3, 4] (gTup [gName 3, gName 4]) (tYes) (eFrz (fCall call 73 (aCons (eOp2S pIdxS (eVar 3) (eC (.int 0))) (aCons (eOp2S pIdxS (eVar 4) (eC (.int 0))) (aNil))))))) (aNil))))) (sRet (fVal (eC (.bl false)))) (sNil)) (sRet (fVal (eOpN nAll (aCons (eFrz (fLc (wItems (eVar 0)) [2] (gName 2) (tYes) (eFrz (fCall call 73 (aCons (eOp2S pIdxS (eVar 2) (eC (.int 0))) (aCons (eVar 1) (aNil))))))) (aNil))))))
def fn108 : Fn := ⟨2, 5, none, b108⟩
/-- comes_round -/
def b109 (call : CallT) : SM := sSeq (sFor (wEnumT (eCutS (eVar 0) (oNone) (oSome (eOp1 pNeg (eVar 1))))) (gTup [gName 3, gTup [gName 5, gName 6]]) (sSeq (sSet 4 (fVal (eOp2S pIdxS (eVar 0) (eOp2 pAdd (eVar 3) (eVar 1))))) (sIf (tOr (tVal (eOp2 pNe (eOp2S pIdxS (eVar 4) (eC (.int 1))) (eVar 6))) (tVal (eOp2 pNe (eFrz (fCall call 70 (aCons (eOp2S pIdxS (eVar 4) (eC (.int 0))) (aCons (eVar 5) (aNil))))) (eVar 2)))) (sRet (fVal (eC (.bl false)))) (sNil)))) (sRet (fVal (eC (.bl true))))
def fn109 : Fn := ⟨3, 7, none, b109⟩
/-- least_form -/
def b110 (call : CallT) : SM := sSeq (sIf (tVal (eOp2 pEq (eOp1S nLenS (eVar 1)) (eC (.int 0)))) (sRet (fVal (eTup (aCons (eTup (aCons (eC (.int 1)) (aCons (eC (.int 1)) (aNil)))) (aCons (eTup (aNil)) (aNil)))))) (sNil)) (sSeq (sSet 2 (fVal (eOp1S nLenS (eVar 1)))) (sSeq (sFor (wRngD (eVar 2) (eC (.int 0))) (gName 3) (sIf (tVal (eOp2 pEq (eOp2 pMul (eOp2 pDiv (eVar 2) (eVar 3)) (eVar 3)) (eVar 2))) (sSeq (sPar 4 5 (fVal (eFrz (fCall call 72 (aCons (eVar 0) (aCons (eTup (aCons (eVar 3) (aCons (eC (.int 1)) (aNil)))) (aNil)))))) (fVal (eOp2 pDiv (eVar 2) (eVar 3)))) (sIf (tAnd (tVal (eFrz (fCall call 73 (aCons (eOp2S pIdxS (eOp2S pIdxS (eVar 1) (eOp2 pSub (eVar 5) (eC (.int 1)))) (eC (.int 0))) (aCons (eVar 4) (aNil)))))) (tVal (eFrz (fCall call 109 (aCons (eVar 1) (aCons (eVar 5) (aCons (eVar 4) (aNil)))))))) (sRet (fVal (eTup (aCons (eVar 4) (aCons (eOpN nTuple (aCons (eCutS (eVar 1) (oNone) (oSome (eVar 5))) (aNil))) (aNil)))))) (sNil))) (sNil))) (sRet (fVal (eTup (aCons (eVar 0) (aCons (eOpN nTuple (aCons (eVar 1) (aNil))) (aNil))))))))
def fn110 : Fn := ⟨2, 6, none, b110⟩
/-- Rhythm___init__ -/
def b111 (call : CallT) : SM := sSeq (sIf (tNot (tVal (eFrz (fCall call 105 (aCons (eVar 1) (aNil)))))) (sRaise0 5) (sNil)) (sSeq (sIf (tOr (tNot (tVal (eOp1 (pIsI ["tuple"]) (eVar 2)))) (tNot (tVal (eFrz (fCall call 108 (aCons (eVar 2) (aCons (eVar 1) (aNil)))))))) (sRaise0 6) (sNil)) (sSeq (sAsg (eFrz (fCall call 110 (aCons (eVar 1) (aCons (eVar 2) (aNil))))) (gTup [gSelf 0 0 "size", gSelf 0 0 "row"])) (sSelf 0 0 "letters_at" (eOpN nDict (aCons (eSelf 0 0 "row") (aNil))))))
def fn111 : Fn := ⟨2, 3, some 0, b111⟩
/-- Rhythm_period -/
def b112 (call : CallT) : SM := sRet (fVal (eAttr 0 "size" (eVar 0)))
def fn112 : Fn := ⟨1, 1, none, b112⟩
/-- Rhythm_beats -/
def b113 (call : CallT) : SM := sRet (fVal (eAttr 0 "row" (eVar 0)))
def fn113 : Fn := ⟨1, 1, none, b113⟩
/-- Rhythm___eq__ -/
def b114 (call : CallT) : SM := sRet (fVal (eAnd (eOp1S (pIsiOwn 0 ["tuple"]) (eVar 1)) (eAnd (eOp2 pEq (eAttr 0 "size" (eVar 0)) (eAttr 0 "size" (eVar 1))) (eOp2 pEq (eAttr 0 "row" (eVar 0)) (eAttr 0 "row" (eVar 1))))))
def fn114 : Fn := ⟨2, 2, none, b114⟩
/-- Rhythm___len__ -/
def b115 (call : CallT) : SM := sRet (fVal (eOp1S nLenS (eAttr 0 "row" (eVar 0))))
def fn115 : Fn := ⟨1, 1, none, b115⟩
/-- Rhythm_sound -/
def b116 (call : CallT) : SM := sRet (fVal (eDGet (eAttr 0 "letters_at" (eVar 0)) (eFrz (fCall call 77 (aCons (eVar 1) (aCons (eAttr 0 "size" (eVar 0)) (aNil))))) (eC (.str []))))
def fn116 : Fn := ⟨2, 2, none, b116⟩
/-- Rhythm_between -/
def b117 (call : CallT) : SM := sSeq (sSet 3 (fLst (aNil))) (sSeq (sFor (wRng2 (eFrz (fCall call 74 (aCons (eFrz (fCall call 72 (aCons (eVar 1) (aCons (eAttr 0 "size" (eVar 0)) (aNil))))) (aNil)))) (eFrz (fCall call 75 (aCons (eFrz (fCall call 72 (aCons (eVar 2) (aCons (eAttr 0 "size" (eVar 0)) (aNil))))) (aNil))))) (gName 4) (sSeq (sSet 5 (fVal (eFrz (fCall call 71 (aCons (eAttr 0 "size" (eVar 0)) (aCons (eTup (aCons (eVar 4) (aCons (eC (.int 1)) (aNil)))) (aNil))))))) (sFor (wItems (eAttr 0 "row" (eVar 0))) (gTup [gName 6, gName 7]) (sSeq (sSet 8 (fVal (eFrz (fCall call 69 (aCons (eVar 5) (aCons (eVar 6) (aNil))))))) (sIf (tAnd (tNot (tVal (eFrz (fCall call 73 (aCons (eVar 8) (aCons (eVar 1) (aNil))))))) (tVal (eFrz (fCall call 73 (aCons (eVar 8) (aCons (eVar 2) (aNil))))))) (sApp 3 (eTup (aCons (eVar 8) (aCons (eVar 7) (aNil))))) (sNil)))))) (sRetV 3))
def fn117 : Fn := ⟨3, 9, none, b117⟩
/-- Rhythm_strokes_to -/
def b118 (call : CallT) : SM := sSeq (sSet 2 (fLst (aNil))) (sSeq (sFor (wRng1 (eOp2S pIdxS (eFrz (fCall call 72 (aCons (eVar 1) (aCons (eAttr 0 "size" (eVar 0)) (aNil))))) (eC (.int 0)))) (gName 3) (sSeq (sSet 4 (fVal (eFrz (fCall call 71 (aCons (eAttr 0 "size" (eVar 0)) (aCons (eTup (aCons (eVar 3) (aCons (eC (.int 1)) (aNil)))) (aNil))))))) (sFor (wItems (eAttr 0 "row" (eVar 0))) (gTup [gName 5, gName 6]) (sExt 2 (eFrz (fLc (wItems (eVar 6)) [7] (gName 7) (tYes) (eTup (aCons (eFrz (fCall call 69 (aCons (eVar 4) (aCons (eVar 5) (aNil))))) (aCons (eVar 7) (aNil)))))))))) (sRetV 2))
def fn118 : Fn := ⟨2, 8, none, b118⟩
/-- Rhythm___or__ -/
def b119 (call : CallT) : SM := sSeq (sIf (tNot (tVal (eOp1S (pIsiOwn 0 ["tuple"]) (eVar 1)))) (sBad) (sNil)) (sRet (fCall call 126 (aCons (eVar 0) (aCons (eVar 1) (aNil)))))
def fn119 : Fn := ⟨2, 2, none, b119⟩
/-- Rhythm___add__ -/
def b120 (call : CallT) : SM := sSeq (sIf (tNot (tVal (eOp1S (pIsiOwn 0 ["tuple"]) (eVar 1)))) (sBad) (sNil)) (sSeq (sSet 2 (fVal (eOpN nTuple (aCons (eFrz (fLc (wItems (eAttr 0 "row" (eVar 1))) [3, 4] (gTup [gName 3, gName 4]) (tYes) (eTup (aCons (eFrz (fCall call 69 (aCons (eAttr 0 "size" (eVar 0)) (aCons (eVar 3) (aNil))))) (aCons (eVar 4) (aNil)))))) (aNil))))) (sSeq (sDrop (eFrz (fCall call 91 (aCons (eOp2 pAdd (eOp1S nLenS (eAttr 0 "row" (eVar 0))) (eOp1S nLenS (eVar 2))) (aNil))))) (sRet (fMake call 111 false (aCons (eFrz (fCall call 69 (aCons (eAttr 0 "size" (eVar 0)) (aCons (eAttr 0 "size" (eVar 1)) (aNil))))) (aCons (eOp2 pAdd (eAttr 0 "row" (eVar 0)) (eVar 2)) (aNil)))))))
def fn120 : Fn := ⟨2, 5, none, b120⟩
/-- Rhythm___rshift__ -/
def b121 (call : CallT) : SM := sSeq (sIf (tNot (tVal (eFrz (fCall call 68 (aCons (eVar 1) (aNil)))))) (sRaise0 7) (sNil)) (sRet (fCall call 124 (aCons (eAttr 0 "size" (eVar 0)) (aCons (eFrz (fLc (wItems (eAttr 0 "row" (eVar 0))) [2, 3] (gTup [gName 2, gName 3]) (tYes) (eTup (aCons (eFrz (fCall call 77 (aCons (eFrz (fCall call 69 (aCons (eVar 2) (aCons (eVar 1) (aNil))))) (aCons (eAttr 0 "size" (eVar 0)) (aNil))))) (aCons (eVar 3) (aNil)))))) (aNil)))))
def fn121 : Fn := ⟨2, 4, none, b121⟩
/-- Rhythm___mul__ -/
def b122 (call : CallT) : SM := sSeq (sIf (tNot (tVal (eFrz (fCall call 105 (aCons (eVar 1) (aNil)))))) (sRaise0 7) (sNil)) (sRet (fMake call 111 false (aCons (eFrz (fCall call 72 (aCons (eAttr 0 "size" (eVar 0)) (aCons (eVar 1) (aNil))))) (aCons (eOpN nTuple (aCons (eFrz (fLc (wItems (eAttr 0 "row" (eVar 0))) [2, 3] (gTup [gName 2, gName 3]) (tYes) (eTup (aCons (eFrz (fCall call 72 (aCons (eVar 2) (aCons (eVar 1) (aNil))))) (aCons (eVar 3) (aNil)))))) (aNil))) (aNil)))))
def fn122 : Fn := ⟨2, 4, none, b122⟩
/-- Rhythm_only -/
def b123 (call : CallT) : SM := sSeq (sIf (tOr (tNot (tVal (eOp1 (pIsI ["str"]) (eVar 1)))) (tNot (tVal (eOpN nAll (aCons (eFrz (fLc (wItems (eVar 1)) [5] (gName 5) (tYes) (eOp2 pIn (eVar 5) (eC (.str [97, 98, 99, 100]))))) (aNil)))))) (sRaise0 7) (sNil)) (sSeq (sSet 2 (fVal (eFrz (fLc (wItems (eAttr 0 "row" (eVar 0))) [3, 4] (gTup [gName 3, gName 4]) (tYes) (eTup (aCons (eVar 3) (aCons (eJoin (eC (.str [])) (eFrz (fLc (wItems (eVar 4)) [5] (gName 5) (tVal (eOp2 pIn (eVar 5) (eVar 1))) (eVar 5)))) (aNil)))))))) (sRet (fMake call 111 false (aCons (eAttr 0 "size" (eVar 0)) (aCons (eOpN nTuple (aCons (eFrz (fLc (wItems (eVar 2)) [3, 4] (gTup [gName 3, gName 4]) (tVal (eOp2 pNe (eVar 4) (eC (.str [])))) (eTup (aCons (eVar 3) (aCons (eVar 4) (aNil)))))) (aNil))) (aNil))))))
def fn123 : Fn := ⟨2, 6, none, b123⟩
/-- rhythm_of -/
def b124 (call : CallT) : SM := sRet (fMake call 111 false (aCons (eVar 0) (aCons (eOpN nTuple (aCons (eFrz (fCall call 100 (aCons (eVar 1) (aNil)))) (aNil))) (aNil))))
def fn124 : Fn := ⟨2, 2, none, b124⟩
/-- common_round -/
def b125 (call : CallT) : SM := sSeq (sSet 2 (fVal (eFrz (fCall call 76 (aCons (eAttr 0 "size" (eVar 0)) (aCons (eAttr 0 "size" (eVar 1)) (aNil))))))) (sSeq (sFor (wItems (eTup (aCons (eVar 0) (aCons (eVar 1) (aNil))))) (gName 3) (sDrop (eFrz (fCall call 91 (aCons (eOp2 pMul (eOp2S pIdxS (eFrz (fCall call 72 (aCons (eVar 2) (aCons (eAttr 0 "size" (eVar 3)) (aNil))))) (eC (.int 0))) (eOp1S nLenS (eAttr 0 "row" (eVar 3)))) (aNil)))))) (sRet (fVal (eVar 2))))
def fn125 : Fn := ⟨2, 4, none, b125⟩
/-- both_of -/
def b126 (call : CallT) : SM := sSeq (sSet 2 (fVal (eFrz (fCall call 125 (aCons (eVar 0) (aCons (eVar 1) (aNil))))))) (sSeq (sSet 3 (fVal (eDc (wItems (eOp2 pAdd (eFrz (fMeth call 118 0 "strokes_to" (eVar 0) (aCons (eVar 2) (aNil)))) (eFrz (fMeth call 118 0 "strokes_to" (eVar 1) (aCons (eVar 2) (aNil)))))) [5] (gName 5) (tYes) (eVar 5) (eC (.bl true))))) (sSeq (sSet 4 (fVal (eFrz (fCall call 100 (aCons (eFrz (fListD (eVar 3))) (aNil)))))) (sSeq (sDrop (eFrz (fCall call 91 (aCons (eOp1S nLenS (eVar 4)) (aNil))))) (sRet (fMake call 111 false (aCons (eVar 2) (aCons (eOpN nTuple (aCons (eVar 4) (aNil))) (aNil))))))))
def fn126 : Fn := ⟨2, 6, none, b126⟩
/-- machine -/
def b127 (call : CallT) : SM := sSeq (sAsg (eFrz (fCall call 104 (aCons (eVar 0) (aNil)))) (gTup [gName 1, gName 2])) (sRet (fCall call 124 (aCons (eVar 1) (aCons (eVar 2) (aNil)))))
def fn127 : Fn := ⟨1, 3, none, b127⟩
/-- alike -/
def b128 (call : CallT) : SM := sRet (fOwn call 114 0 ["tuple"] (eVar 0) (eVar 1))
def fn128 : Fn := ⟨2, 2, none, b128⟩
/-- times_of -/
def b129 (call : CallT) : SM := sSeq (sSet 3 (fVal (eDc (wItems (eOp2 pAdd (eFrz (fMeth call 117 0 "between" (eVar 0) (aCons (eTup (aCons (eC (.int 0)) (aCons (eC (.int 1)) (aNil)))) (aCons (eVar 2) (aNil))))) (eFrz (fMeth call 117 0 "between" (eVar 1) (aCons (eTup (aCons (eC (.int 0)) (aCons (eC (.int 1)) (aNil)))) (aCons (eVar 2) (aNil))))))) [4, 5] (gTup [gName 4, gName 5]) (tYes) (eVar 4) (eC (.str []))))) (sRet (fLc (wItems (eFrz (fCall call 78 (aCons (eFrz (fListIt (eVar 3))) (aNil))))) [4, 6] (gTup [gName 4, gName 6]) (tYes) (eVar 4)))
def fn129 : Fn := ⟨3, 7, none, b129⟩
/-- parting -/
def b130 (call : CallT) : SM := sSeq (sIf (tVal (eFrz (fOwn call 114 0 ["tuple"] (eVar 0) (eVar 1)))) (sRet (fVal (eC .non))) (sNil)) (sSeq (sSet 2 (fVal (eFrz (fCall call 69 (aCons (eAttr 0 "size" (eVar 0)) (aCons (eAttr 0 "size" (eVar 1)) (aNil))))))) (sSeq (sFor (wItems (eFrz (fCall call 129 (aCons (eVar 0) (aCons (eVar 1) (aCons (eFrz (fCall call 69 (aCons (eVar 2) (aCons (eVar 2) (aNil))))) (aNil))))))) (gName 3) (sIf (tVal (eOp2 pNe (eFrz (fMeth call 116 0 "sound" (eVar 0) (aCons (eVar 3) (aNil)))) (eFrz (fMeth call 116 0 "sound" (eVar 1) (aCons (eVar 3) (aNil)))))) (sRet (fVal (eTup (aCons (eVar 3) (aCons (eFrz (fMeth call 116 0 "sound" (eVar 0) (aCons (eVar 3) (aNil)))) (aCons (eFrz (fMeth call 116 0 "sound" (eVar 1) (aCons (eVar 3) (aNil)))) (aNil))))))) (sNil))) (sRet (fVal (eC .non)))))
def fn130 : Fn := ⟨2, 4, none, b130⟩
/-- together -/
def b131 (call : CallT) : SM := sSeq (sSet 2 (fVal (eFrz (fCall call 125 (aCons (eVar 0) (aCons (eVar 1) (aNil))))))) (sSeq (sSet 3 (fVal (eFrz (fLc (wItems (eFrz (fMeth call 117 0 "between" (eVar 0) (aCons (eTup (aCons (eC (.int 0)) (aCons (eC (.int 1)) (aNil)))) (aCons (eVar 2) (aNil)))))) [4, 5] (gTup [gName 4, gName 5]) (tVal (eOp2 pNe (eFrz (fMeth call 116 0 "sound" (eVar 1) (aCons (eVar 4) (aNil)))) (eC (.str [])))) (eVar 4))))) (sRet (fVal (eTup (aCons (eVar 2) (aCons (eOpN nTuple (aCons (eVar 3) (aNil))) (aNil)))))))
def fn131 : Fn := ⟨2, 6, none, b131⟩
/-- waits_of -/
def b132 (call : CallT) : SM := sSeq (sSet 1 (fVal (eFrz (fLc (wItems (eAttr 0 "row" (eVar 0))) [3, 4] (gTup [gName 3, gName 4]) (tYes) (eVar 3))))) (sSeq (sSet 2 (fVal (eOp2 pAdd (eFrz (fLc (wItems (eCutS (eVar 1) (oSome (eOp1 pNeg (eC (.int 1)))) (oNone))) [3] (gName 3) (tYes) (eFrz (fCall call 70 (aCons (eVar 3) (aCons (eAttr 0 "size" (eVar 0)) (aNil))))))) (eCutS (eVar 1) (oNone) (oSome (eOp1 pNeg (eC (.int 1)))))))) (sRet (fVal (eDc (wZip (eVar 1) (eVar 2)) [3, 5] (gTup [gName 3, gName 5]) (tYes) (eVar 3) (eFrz (fCall call 70 (aCons (eVar 3) (aCons (eVar 5) (aNil)))))))))
def fn132 : Fn := ⟨1, 6, none, b132⟩
/-- joins -/
def b133 (call : CallT) : SM := sSeq (sAsg (eFrz (fCall call 131 (aCons (eVar 0) (aCons (eVar 1) (aNil))))) (gTup [gName 4, gName 5])) (sSeq (sPar 6 7 (fVal (eFrz (fCall call 132 (aCons (eVar 0) (aNil))))) (fVal (eFrz (fCall call 132 (aCons (eVar 1) (aNil)))))) (sSeq (sSet 2 (fLst (aNil))) (sSeq (sFor (wItems (eVar 5)) (gName 3) (sIf (tAnd (tVal (eOp2 pEq (eFrz (fMeth call 116 0 "sound" (eVar 0) (aCons (eVar 3) (aNil)))) (eFrz (fMeth call 116 0 "sound" (eVar 1) (aCons (eVar 3) (aNil)))))) (tVal (eOp2 pEq (eOp2 pDIdx (eVar 6) (eFrz (fCall call 77 (aCons (eVar 3) (aCons (eAttr 0 "size" (eVar 0)) (aNil)))))) (eOp2 pDIdx (eVar 7) (eFrz (fCall call 77 (aCons (eVar 3) (aCons (eAttr 0 "size" (eVar 1)) (aNil))))))))) (sApp 2 (eVar 3)) (sNil))) (sRet (fVal (eTupOwn 2))))))
def fn133 : Fn := ⟨2, 8, none, b133⟩
/-- check_heard -/
def b136 (call : CallT) : SM := sIf (tOr (tNot (tVal (eOp1 (pIsI ["list", "tuple"]) (eVar 0)))) (tOr (tNot (tVal (eFrz (fCall call 105 (aCons (eVar 1) (aNil)))))) (tOr (tNot (tVal (eFrz (fCall call 105 (aCons (eVar 2) (aNil)))))) (tNot (tVal (eFrz (fCall call 108 (aCons (eVar 0) (aCons (eVar 1) (aNil)))))))))) (sRaise0 8) (sNil)
def fn136 : Fn := ⟨3, 3, none, b136⟩
/-- may_come_round -/
def b137 (call : CallT) : SM := sSeq (sFor (wItems (eVar 0)) (gTup [gName 4, gName 5]) (sSeq (sPar 6 7 (fVal (eFrz (fCall call 69 (aCons (eVar 4) (aCons (eVar 3) (aNil)))))) (fVal (eFrz (fCall call 70 (aCons (eVar 4) (aCons (eVar 3) (aNil))))))) (sSeq (sIf (tAnd (tVal (eFrz (fCall call 73 (aCons (eVar 6) (aCons (eVar 2) (aNil)))))) (tVal (eOp2 pNe (eDGet (eVar 1) (eVar 6) (eC (.str []))) (eVar 5)))) (sRet (fVal (eC (.bl false)))) (sNil)) (sIf (tAnd (tVal (eOp2 pGe (eOp2S pIdxS (eVar 7) (eC (.int 0))) (eC (.int 0)))) (tVal (eOp2 pNe (eDGet (eVar 1) (eVar 7) (eC (.str []))) (eVar 5)))) (sRet (fVal (eC (.bl false)))) (sNil))))) (sRet (fVal (eC (.bl true))))
def fn137 : Fn := ⟨4, 8, none, b137⟩
/-- rounds -/
def b138 (call : CallT) : SM := sSeq (sDrop (eFrz (fCall call 136 (aCons (eVar 0) (aCons (eVar 1) (aCons (eVar 2) (aNil))))))) (sSeq (sPar 4 5 (fVal (eOpN nDict (aCons (eVar 0) (aNil)))) (fLst (aNil))) (sSeq (sFor (wRng2 (eC (.int 1)) (eOp2 pAdd (eFrz (fCall call 74 (aCons (eFrz (fCall call 72 (aCons (eVar 1) (aCons (eVar 2) (aNil))))) (aNil)))) (eC (.int 1)))) (gName 3) (sSeq (sSet 6 (fVal (eFrz (fCall call 71 (aCons (eVar 2) (aCons (eTup (aCons (eVar 3) (aCons (eC (.int 1)) (aNil)))) (aNil))))))) (sIf (tVal (eFrz (fCall call 137 (aCons (eVar 0) (aCons (eVar 4) (aCons (eVar 1) (aCons (eVar 6) (aNil)))))))) (sApp 5 (eVar 6)) (sNil)))) (sRetV 5)))
def fn138 : Fn := ⟨3, 7, none, b138⟩
/-- next_beat -/
def b139 (call : CallT) : SM := sSeq (sSet 3 (fVal (eC .non))) (sSeq (sFor (wItems (eVar 0)) (gTup [gName 4, gName 5]) (sIf (tVal (eFrz (fCall call 73 (aCons (eVar 4) (aCons (eVar 2) (aNil)))))) (sSeq (sSet 6 (fVal (eFrz (fCall call 75 (aCons (eFrz (fCall call 72 (aCons (eFrz (fCall call 70 (aCons (eVar 1) (aCons (eVar 4) (aNil))))) (aCons (eVar 2) (aNil))))) (aNil)))))) (sSeq (sSet 7 (fVal (eFrz (fCall call 69 (aCons (eVar 4) (aCons (eFrz (fCall call 71 (aCons (eVar 2) (aCons (eTup (aCons (eVar 6) (aCons (eC (.int 1)) (aNil)))) (aNil))))) (aNil))))))) (sIf (tOr (tVal (eOp2 pIsN (eVar 3) (eC .non))) (tVal (eFrz (fCall call 73 (aCons (eVar 7) (aCons (eOp2S pIdxS (eVar 3) (eC (.int 0))) (aNil))))))) (sSet 3 (fVal (eTup (aCons (eVar 7) (aCons (eVar 5) (aNil)))))) (sNil)))) (sNil))) (sRet (fVal (eVar 3))))
def fn139 : Fn := ⟨3, 8, none, b139⟩
/-- expected -/
def b140 (call : CallT) : SM := sRet (fVal (eDc (wItems (eFrz (fCall call 138 (aCons (eVar 0) (aCons (eVar 1) (aCons (eVar 2) (aNil))))))) [3] (gName 3) (tYes) (eVar 3) (eFrz (fCall call 139 (aCons (eVar 0) (aCons (eVar 1) (aCons (eVar 3) (aNil))))))))
def fn140 : Fn := ⟨3, 4, none, b140⟩
/-- Player___init__ -/
def b141 (call : CallT) : SM := sSelf 1 0 "states" (eNewL (fLst (aCons (eTup (aCons (eTup (aCons (eC (.int 0)) (aCons (eC (.int 1)) (aNil)))) (aCons (eFrz (fCall call 127 (aCons (eVar 1) (aNil)))) (aCons (eTup (aNil)) (aNil))))) (aNil))))
def fn141 : Fn := ⟨1, 2, some 1, b141⟩
/-- Player_go -/
def b145 (call : CallT) : SM := sSeq (sAsg (eOp2S pIdxS (eAttr 1 "states" (eVar 0)) (eOp1 pNeg (eC (.int 1)))) (gTup [gName 3, gName 4, gName 5])) (sSeq (sIf (tOr (tNot (tVal (eFrz (fCall call 68 (aCons (eVar 1) (aNil)))))) (tVal (eFrz (fCall call 73 (aCons (eVar 1) (aCons (eVar 3) (aNil))))))) (sRaise0 9) (sNil)) (sSeq (sSet 2 (fVal (eFrz (fMeth call 117 0 "between" (eVar 4) (aCons (eVar 3) (aCons (eVar 1) (aNil))))))) (sSeq (sAppL (eAttr 1 "states" (eVar 0)) (eTup (aCons (eVar 1) (aCons (eVar 4) (aCons (eOp2 pAdd (eVar 5) (eOpN nTuple (aCons (eVar 2) (aNil)))) (aNil)))))) (sRet (fList (eVar 2))))))
def fn145 : Fn := ⟨2, 6, none, b145⟩
/-- Player_put_smoothly -/
def b147 (call : CallT) : SM := sSeq (sSet 2 (fVal (eFrz (fCall call 127 (aCons (eVar 1) (aNil)))))) (sSeq (sAsg (eOp2S pIdxS (eAttr 1 "states" (eVar 0)) (eOp1 pNeg (eC (.int 1)))) (gTup [gName 4, gName 5, gName 6])) (sSeq (sSet 3 (fVal (eFrz (fCall call 152 (aCons (eVar 5) (aCons (eVar 2) (aCons (eVar 4) (aNil)))))))) (sSeq (sAppL (eAttr 1 "states" (eVar 0)) (eTup (aCons (eVar 3) (aCons (eVar 2) (aCons (eOp2 pAdd (eVar 6) (eOpN nTuple (aCons (eFrz (fMeth call 117 0 "between" (eVar 5) (aCons (eVar 4) (aCons (eVar 3) (aNil))))) (aNil)))) (aNil)))))) (sRet (fVal (eVar 3))))))
def fn147 : Fn := ⟨2, 7, none, b147⟩
/-- Player_undo -/
def b148 (call : CallT) : SM := sSeq (sIf (tVal (eOp2 pEq (eOp1S nLenS (eAttr 1 "states" (eVar 0))) (eC (.int 1)))) (sRet (fVal (eC (.bl false)))) (sNil)) (sSeq (sPopL (eAttr 1 "states" (eVar 0))) (sRet (fVal (eC (.bl true)))))
def fn148 : Fn := ⟨1, 1, none, b148⟩
/-- next_join -/
def b152 (call : CallT) : SM := sSeq (sSet 3 (fVal (eFrz (fCall call 133 (aCons (eVar 0) (aCons (eVar 1) (aNil))))))) (sSeq (sIf (tVal (eOp2 pEq (eVar 3) (eTup (aNil)))) (sRaise0 10) (sNil)) (sSeq (sSet 4 (fVal (eFrz (fCall call 125 (aCons (eVar 0) (aCons (eVar 1) (aNil))))))) (sSeq (sSet 5 (fVal (eFrz (fCall call 77 (aCons (eVar 2) (aCons (eVar 4) (aNil))))))) (sSeq (sSet 6 (fVal (eFrz (fLc (wItems (eVar 3)) [8] (gName 8) (tNot (tVal (eFrz (fCall call 73 (aCons (eVar 8) (aCons (eVar 5) (aNil))))))) (eVar 8))))) (sSeq (sSet 7 (fVal (eFrz (fIf (tVal (eOp2 pNe (eVar 6) (eFrz (fLst (aNil))))) (fCall call 70 (aCons (eOp2S pIdxS (eVar 6) (eC (.int 0))) (aCons (eVar 5) (aNil)))) (fCall call 70 (aCons (eFrz (fCall call 69 (aCons (eOp2S pIdxS (eVar 3) (eC (.int 0))) (aCons (eVar 4) (aNil))))) (aCons (eVar 5) (aNil)))))))) (sRet (fCall call 69 (aCons (eVar 2) (aCons (eVar 7) (aNil))))))))))
def fn152 : Fn := ⟨3, 9, none, b152⟩
/-- _law_taken -/
def b160 (call : CallT) : SM := sSeq (sIf (tVal (eOp2 pGt (eOp2S pIdxS (eVar 0) (eC (.int 3))) (eC (.int 0)))) (sSeq (sSet 3 (fVal (eOp2 pMod (eOpN nInt (aCons (eOp2S pIdxS (eVar 0) (eC (.int 3))) (aNil))) (eVar 1)))) (sSeq (sSetIxL (eVar 0) (eOp2 pDiv (eOp2S pIdxS (eVar 0) (eC (.int 3))) (eVar 1)) (eC (.int 3))) (sRet (fVal (eVar 3))))) (sNil)) (sSeq (sSetIxL (eVar 0) (eOp2 pAdd (eOp2S pIdxS (eVar 0) (eC (.int 1))) (eC (.int 1))) (eC (.int 1))) (sSeq (sIf (tVal (eOp2 pGt (eOp2S pIdxS (eVar 0) (eC (.int 1))) (eOp1S nLenS (eOp2S pIdxS (eVar 0) (eC (.int 0)))))) (sSeq (sSetIxL (eVar 0) (eOp2 pMod (eOpN nInt (aCons (eOp2 pAdd (eOp2 pMul (eOp2S pIdxS (eVar 0) (eC (.int 2))) (eC (.int 48271))) (eC (.int 11))) (aNil))) (eC (.int 2147483647))) (eC (.int 2))) (sRet (fVal (eOp2 pMod (eOpN nInt (aCons (eOp2 pDiv (eOp2S pIdxS (eVar 0) (eC (.int 2))) (eC (.int 7))) (aNil))) (eVar 1))))) (sNil)) (sSeq (sSet 2 (fVal (eOp2S pIdxS (eOp2S pIdxS (eVar 0) (eC (.int 0))) (eOp2 pSub (eOp2S pIdxS (eVar 0) (eC (.int 1))) (eC (.int 1)))))) (sSeq (sSetIxL (eVar 0) (eOp2 pMod (eOpN nInt (aCons (eOp2 pAdd (eOp2 pAdd (eOp2 pMul (eOp2S pIdxS (eVar 0) (eC (.int 2))) (eC (.int 48271))) (eVar 2)) (eC (.int 11))) (aNil))) (eC (.int 2147483647))) (eC (.int 2))) (sSeq (sIf (tVal (eOp2 pGe (eVar 2) (eOp2 pPow (eC (.int 10)) (eC (.int 18))))) (sSetIxL (eVar 0) (eOp2 pDiv (eVar 2) (eVar 1)) (eC (.int 3))) (sNil)) (sRet (fVal (eOp2 pMod (eOpN nInt (aCons (eVar 2) (aNil))) (eVar 1)))))))))
def fn160 : Fn := ⟨2, 4, none, b160⟩
/-- _law_frac -/
def b161 (call : CallT) : SM := sSeq (sPar 2 3 (fVal (eOpN nAbs (aCons (eVar 0) (aNil)))) (fVal (eVar 1))) (sSeq (sWhile (tVal (eOp2 pGt (eVar 3) (eC (.int 0)))) (sPar 2 3 (fVal (eVar 3)) (fVal (eOp2 pMod (eVar 2) (eVar 3))))) (sRet (fVal (eTup (aCons (eOp2 pDiv (eVar 0) (eVar 2)) (aCons (eOp2 pDiv (eVar 1) (eVar 2)) (aNil)))))))
def fn161 : Fn := ⟨2, 4, none, b161⟩
/-- _law_sum -/
def b162 (call : CallT) : SM := sRet (fCall call 161 (aCons (eOp2 pAdd (eOp2 pMul (eOp2S pIdxS (eVar 0) (eC (.int 0))) (eOp2S pIdxS (eVar 1) (eC (.int 1)))) (eOp2 pMul (eOp2S pIdxS (eVar 1) (eC (.int 0))) (eOp2S pIdxS (eVar 0) (eC (.int 1))))) (aCons (eOp2 pMul (eOp2S pIdxS (eVar 0) (eC (.int 1))) (eOp2S pIdxS (eVar 1) (eC (.int 1)))) (aNil))))
def fn162 : Fn := ⟨2, 2, none, b162⟩
/-- _law_times -/
def b163 (call : CallT) : SM := sRet (fCall call 161 (aCons (eOp2 pMul (eOp2S pIdxS (eVar 0) (eC (.int 0))) (eOp2S pIdxS (eVar 1) (eC (.int 0)))) (aCons (eOp2 pMul (eOp2S pIdxS (eVar 0) (eC (.int 1))) (eOp2S pIdxS (eVar 1) (eC (.int 1)))) (aNil))))
def fn163 : Fn := ⟨2, 2, none, b163⟩
/-- _law_less -/
def b164 (call : CallT) : SM := sRet (fVal (eOp2 pLt (eOp2 pMul (eOp2S pIdxS (eVar 0) (eC (.int 0))) (eOp2S pIdxS (eVar 1) (eC (.int 1)))) (eOp2 pMul (eOp2S pIdxS (eVar 1) (eC (.int 0))) (eOp2S pIdxS (eVar 0) (eC (.int 1))))))
def fn164 : Fn := ⟨2, 2, none, b164⟩
/-- _law_lcm -/
def b165 (call : CallT) : SM := sRet (fVal (eOp2 pMul (eVar 0) (eOp2S pIdxS (eFrz (fCall call 161 (aCons (eVar 0) (aCons (eVar 1) (aNil))))) (eC (.int 1)))))
def fn165 : Fn := ⟨2, 2, none, b165⟩
/-- _law_beats -/
def b166 (call : CallT) : SM := sSeq (sSet 1 (fVal (eC (.int 1)))) (sSeq (sFor (wItems (eVar 0)) (gTup [gName 4, gName 5]) (sSet 1 (fVal (eFrz (fCall call 165 (aCons (eVar 1) (aCons (eOp2S pIdxS (eVar 4) (eC (.int 1))) (aNil)))))))) (sSeq (sSet 2 (fVal (eOp1 nSortSet (eFrz (fLc (wItems (eVar 0)) [4, 5] (gTup [gName 4, gName 5]) (tYes) (eTup (aCons (eOp2 pMul (eOp2S pIdxS (eVar 4) (eC (.int 0))) (eOp2 pDiv (eVar 1) (eOp2S pIdxS (eVar 4) (eC (.int 1))))) (aCons (eVar 5) (aNil))))))))) (sSeq (sSet 3 (fLst (aNil))) (sSeq (sFor (wItems (eVar 2)) (gTup [gName 6, gName 5]) (sSeq (sSet 4 (fVal (eFrz (fCall call 161 (aCons (eVar 6) (aCons (eVar 1) (aNil))))))) (sSeq (sIf (tAnd (tVal (eOp2 pGt (eLenOwn 3) (eC (.int 0)))) (tVal (eOp2 pEq (eOp2S pIdxS (eIdxOwn 3 (eOp1 pNeg (eC (.int 1)))) (eC (.int 0))) (eVar 4)))) (sSeq (sSet 5 (fVal (eOp2 pAdd (eOp2S pIdxS (eIdxOwn 3 (eOp1 pNeg (eC (.int 1)))) (eC (.int 1))) (eVar 5)))) (sSet 3 (fCutOwn 3 (oNone) (oSome (eOp1 pNeg (eC (.int 1))))))) (sNil)) (sApp 3 (eTup (aCons (eVar 4) (aCons (eVar 5) (aNil)))))))) (sRetV 3)))))
def fn166 : Fn := ⟨1, 7, none, b166⟩
/-- _law_tree -/
def b167 (call : CallT) : SM := sSeq (sSet 2 (fVal (eFrz (fCall call 160 (aCons (eVar 0) (aCons (eC (.int 12)) (aNil))))))) (sSeq (sIf (tOr (tVal (eOp2 pEq (eVar 1) (eC (.int 0)))) (tVal (eOp2 pLt (eVar 2) (eC (.int 3))))) (sSeq (sSet 3 (fVal (eOp2S pIdxS (eFrz (fLst (aCons (eC (.str [97])) (aCons (eC (.str [98])) (aCons (eC (.str [99])) (aCons (eC (.str [100])) (aCons (eC (.str [45])) (aCons (eC (.str [97])) (aCons (eC (.str [45])) (aNil)))))))))) (eFrz (fCall call 160 (aCons (eVar 0) (aCons (eC (.int 7)) (aNil)))))))) (sRet (fLst (aCons (eC (.str [111, 110, 101])) (aCons (eVar 3) (aNil)))))) (sNil)) (sSeq (sIf (tVal (eOp2 pLt (eVar 2) (eC (.int 8)))) (sSeq (sSet 4 (fVal (eFrz (fLc (wRng1 (eOp2 pAdd (eC (.int 1)) (eFrz (fCall call 160 (aCons (eVar 0) (aCons (eC (.int 3)) (aNil))))))) [6] (gName 6) (tYes) (eFrz (fCall call 167 (aCons (eVar 0) (aCons (eOp2 pSub (eVar 1) (eC (.int 1))) (aNil))))))))) (sRet (fLst (aCons (eOp2S pIdxS (eFrz (fLst (aCons (eC (.str [114, 111, 119])) (aCons (eC (.str [115, 116, 97, 99, 107])) (aCons (eC (.str [116, 117, 114, 110, 115])) (aNil)))))) (eFrz (fCall call 160 (aCons (eVar 0) (aCons (eC (.int 3)) (aNil)))))) (aCons (eVar 4) (aNil)))))) (sNil)) (sSeq (sIf (tVal (eOp2 pEq (eVar 2) (eC (.int 8)))) (sRet (fLst (aCons (eC (.str [113, 117, 105, 99, 107])) (aCons (eFrz (fCall call 167 (aCons (eVar 0) (aCons (eOp2 pSub (eVar 1) (eC (.int 1))) (aNil))))) (aCons (eOp2 pAdd (eC (.int 1)) (eFrz (fCall call 160 (aCons (eVar 0) (aCons (eC (.int 4)) (aNil)))))) (aCons (eOp2 pAdd (eC (.int 1)) (eFrz (fCall call 160 (aCons (eVar 0) (aCons (eC (.int 3)) (aNil)))))) (aNil))))))) (sNil)) (sSeq (sIf (tVal (eOp2 pEq (eVar 2) (eC (.int 9)))) (sSeq (sSet 5 (fVal (eOp2 pAdd (eC (.int 1)) (eFrz (fCall call 160 (aCons (eVar 0) (aCons (eC (.int 3)) (aNil)))))))) (sRet (fLst (aCons (eC (.str [108, 97, 116, 101])) (aCons (eFrz (fCall call 167 (aCons (eVar 0) (aCons (eOp2 pSub (eVar 1) (eC (.int 1))) (aNil))))) (aCons (eVar 5) (aCons (eOp2 pAdd (eOp2 pAdd (eVar 5) (eC (.int 1))) (eFrz (fCall call 160 (aCons (eVar 0) (aCons (eC (.int 2)) (aNil)))))) (aNil)))))))) (sNil)) (sSeq (sIf (tVal (eOp2 pEq (eVar 2) (eC (.int 10)))) (sRet (fLst (aCons (eC (.str [102, 114, 97, 109, 101])) (aCons (eFrz (fCall call 167 (aCons (eVar 0) (aCons (eOp2 pSub (eVar 1) (eC (.int 1))) (aNil))))) (aCons (eOp2 pAdd (eC (.int 1)) (eFrz (fCall call 160 (aCons (eVar 0) (aCons (eC (.int 5)) (aNil)))))) (aNil)))))) (sNil)) (sRet (fLst (aCons (eC (.str [101, 97, 99, 104])) (aCons (eFrz (fCall call 167 (aCons (eVar 0) (aCons (eOp2 pSub (eVar 1) (eC (.int 1))) (aNil))))) (aCons (eOp2 pAdd (eC (.int 2)) (eFrz (fCall call 160 (aCons (eVar 0) (aCons (eC (.int 2)) (aNil)))))) (aCons (eFrz (fCall call 168 (aCons (eVar 0) (aCons (eOp2 pSub (eVar 1) (eC (.int 1))) (aNil))))) (aNil))))))))))))
def fn167 : Fn := ⟨2, 7, none, b167⟩
/-- _law_core -/
def b168 (call : CallT) : SM := sSeq (sSet 2 (fVal (eFrz (fCall call 167 (aCons (eVar 0) (aCons (eVar 1) (aNil))))))) (sRet (fIf (tVal (eOp2 pIn (eOp2S pIdxS (eVar 2) (eC (.int 0))) (eTup (aCons (eC (.str [111, 110, 101])) (aCons (eC (.str [114, 111, 119])) (aCons (eC (.str [115, 116, 97, 99, 107])) (aCons (eC (.str [116, 117, 114, 110, 115])) (aNil)))))))) (fVal (eVar 2)) (fLst (aCons (eC (.str [114, 111, 119])) (aCons (eFrz (fLst (aCons (eVar 2) (aNil)))) (aNil))))))
def fn168 : Fn := ⟨2, 3, none, b168⟩
/-- _law_text -/
def b169 (call : CallT) : SM := sSeq (sSet 1 (fVal (eOp2S pIdxS (eVar 0) (eC (.int 0))))) (sSeq (sIf (tVal (eOp2 pEq (eVar 1) (eC (.str [111, 110, 101])))) (sRet (fVal (eOp2S pIdxS (eVar 0) (eC (.int 1))))) (sNil)) (sSeq (sIf (tVal (eOp2 pIn (eVar 1) (eTup (aCons (eC (.str [114, 111, 119])) (aCons (eC (.str [115, 116, 97, 99, 107])) (aCons (eC (.str [116, 117, 114, 110, 115])) (aNil))))))) (sSeq (sSet 3 (fVal (eTab [([114, 111, 119], [91, 93]), ([115, 116, 97, 99, 107], [123, 125]), ([116, 117, 114, 110, 115], [40, 41])] (eVar 1)))) (sRet (fVal (eOp2 pAdd (eOp2 pAdd (eOp2S pIdxS (eVar 3) (eC (.int 0))) (eJoin (eC (.str [])) (eFrz (fLc (wItems (eOp2S pIdxS (eVar 0) (eC (.int 1)))) [4] (gName 4) (tYes) (eFrz (fCall call 169 (aCons (eVar 4) (aNil)))))))) (eOp2S pIdxS (eVar 3) (eC (.int 1))))))) (sNil)) (sSeq (sSet 2 (fVal (eFrz (fCall call 169 (aCons (eOp2S pIdxS (eVar 0) (eC (.int 1))) (aNil)))))) (sSeq (sIf (tVal (eOp2 pEq (eVar 1) (eC (.str [113, 117, 105, 99, 107])))) (sRet (fVal (eOp2 pAdd (eOp2 pAdd (eOp2 pAdd (eOp2 pAdd (eVar 2) (eC (.str [42]))) (eOpN nStr (aCons (eOp2S pIdxS (eVar 0) (eC (.int 2))) (aNil)))) (eC (.str [47]))) (eOpN nStr (aCons (eOp2S pIdxS (eVar 0) (eC (.int 3))) (aNil)))))) (sNil)) (sSeq (sIf (tVal (eOp2 pEq (eVar 1) (eC (.str [108, 97, 116, 101])))) (sRet (fVal (eOp2 pAdd (eOp2 pAdd (eOp2 pAdd (eOp2 pAdd (eVar 2) (eC (.str [62]))) (eOpN nStr (aCons (eOp2S pIdxS (eVar 0) (eC (.int 2))) (aNil)))) (eC (.str [47]))) (eOpN nStr (aCons (eOp2S pIdxS (eVar 0) (eC (.int 3))) (aNil)))))) (sNil)) (sSeq (sIf (tVal (eOp2 pEq (eVar 1) (eC (.str [102, 114, 97, 109, 101])))) (sRet (fVal (eOp2 pAdd (eOp2 pAdd (eVar 2) (eC (.str [126]))) (eOpN nStr (aCons (eOp2S pIdxS (eVar 0) (eC (.int 2))) (aNil)))))) (sNil)) (sRet (fVal (eOp2 pAdd (eOp2 pAdd (eOp2 pAdd (eVar 2) (eC (.str [33]))) (eOpN nStr (aCons (eOp2S pIdxS (eVar 0) (eC (.int 2))) (aNil)))) (eFrz (fCall call 169 (aCons (eOp2S pIdxS (eVar 0) (eC (.int 3))) (aNil)))))))))))))
def fn169 : Fn := ⟨1, 5, none, b169⟩
/-- _law_small -/
def b170 (call : CallT) : SM := sSeq (sSet 2 (fVal (eFrz (fCall call 167 (aCons (eVar 0) (aCons (eVar 1) (aNil))))))) (sSeq (sWhile (tOr (tVal (eOp2 pGt (eOp1S nLenS (eFrz (fCall call 169 (aCons (eVar 2) (aNil))))) (eC (.int 40)))) (tVal (eOp2 pGt (eFrz (fCall call 173 (aCons (eVar 2) (aNil)))) (eC (.int 120))))) (sSet 2 (fVal (eIf (tVal (eOp2 pIn (eOp2S pIdxS (eVar 2) (eC (.int 0))) (eTup (aCons (eC (.str [114, 111, 119])) (aCons (eC (.str [115, 116, 97, 99, 107])) (aCons (eC (.str [116, 117, 114, 110, 115])) (aNil))))))) (eOp2S pIdxS (eOp2S pIdxS (eVar 2) (eC (.int 1))) (eC (.int 0))) (eOp2S pIdxS (eVar 2) (eC (.int 1))))))) (sRet (fVal (eVar 2))))
def fn170 : Fn := ⟨2, 3, none, b170⟩
/-- _law_size -/
def b171 (call : CallT) : SM := sSeq (sSet 1 (fVal (eOp2S pIdxS (eVar 0) (eC (.int 0))))) (sSeq (sIf (tVal (eOp2 pEq (eVar 1) (eC (.str [111, 110, 101])))) (sRet (fVal (eTup (aCons (eC (.int 1)) (aCons (eC (.int 1)) (aNil)))))) (sNil)) (sSeq (sIf (tVal (eOp2 pEq (eVar 1) (eC (.str [102, 114, 97, 109, 101])))) (sRet (fVal (eTup (aCons (eOp2S pIdxS (eVar 0) (eC (.int 2))) (aCons (eC (.int 1)) (aNil)))))) (sNil)) (sSeq (sIf (tVal (eOp2 pEq (eVar 1) (eC (.str [113, 117, 105, 99, 107])))) (sRet (fCall call 163 (aCons (eFrz (fCall call 171 (aCons (eOp2S pIdxS (eVar 0) (eC (.int 1))) (aNil)))) (aCons (eFrz (fCall call 161 (aCons (eOp2S pIdxS (eVar 0) (eC (.int 3))) (aCons (eOp2S pIdxS (eVar 0) (eC (.int 2))) (aNil))))) (aNil))))) (sNil)) (sSeq (sIf (tVal (eOp2 pEq (eVar 1) (eC (.str [108, 97, 116, 101])))) (sRet (fCall call 171 (aCons (eOp2S pIdxS (eVar 0) (eC (.int 1))) (aNil)))) (sNil)) (sSeq (sSet 2 (fVal (eFrz (fLc (wItems (eFrz (fIf (tVal (eOp2 pNe (eVar 1) (eC (.str [101, 97, 99, 104])))) (fVal (eOp2S pIdxS (eVar 0) (eC (.int 1)))) (fLst (aCons (eOp2S pIdxS (eVar 0) (eC (.int 1))) (aCons (eOp2S pIdxS (eVar 0) (eC (.int 3))) (aNil))))))) [5] (gName 5) (tYes) (eFrz (fCall call 171 (aCons (eVar 5) (aNil)))))))) (sSeq (sSet 3 (fVal (eOp2S pIdxS (eVar 2) (eC (.int 0))))) (sSeq (sFor (wItems (eCutS (eVar 2) (oSome (eC (.int 1))) (oNone))) (gName 4) (sIf (tVal (eOp2 pEq (eVar 1) (eC (.str [114, 111, 119])))) (sSet 3 (fVal (eFrz (fCall call 162 (aCons (eVar 3) (aCons (eVar 4) (aNil))))))) (sIf (tVal (eOp2 pEq (eVar 1) (eC (.str [115, 116, 97, 99, 107])))) (sSeq (sSet 6 (fVal (eFrz (fCall call 165 (aCons (eOp2S pIdxS (eVar 3) (eC (.int 1))) (aCons (eOp2S pIdxS (eVar 4) (eC (.int 1))) (aNil))))))) (sSeq (sSet 7 (fVal (eOp2 pMul (eOp2S pIdxS (eVar 3) (eC (.int 0))) (eOp2 pDiv (eVar 6) (eOp2S pIdxS (eVar 3) (eC (.int 1))))))) (sSeq (sSet 8 (fVal (eOp2 pMul (eOp2S pIdxS (eVar 4) (eC (.int 0))) (eOp2 pDiv (eVar 6) (eOp2S pIdxS (eVar 4) (eC (.int 1))))))) (sSet 3 (fVal (eFrz (fCall call 161 (aCons (eFrz (fCall call 165 (aCons (eVar 7) (aCons (eVar 8) (aNil))))) (aCons (eVar 6) (aNil)))))))))) (sIf (tVal (eFrz (fCall call 164 (aCons (eVar 3) (aCons (eVar 4) (aNil)))))) (sSet 3 (fVal (eVar 4))) (sNil))))) (sRet (fVal (eVar 3))))))))))
def fn171 : Fn := ⟨1, 9, none, b171⟩
/-- _law_round -/
def b172 (call : CallT) : SM := sSeq (sSet 1 (fVal (eOp2S pIdxS (eVar 0) (eC (.int 0))))) (sSeq (sIf (tVal (eOp2 pIn (eVar 1) (eTup (aCons (eC (.str [111, 110, 101])) (aCons (eC (.str [102, 114, 97, 109, 101])) (aNil)))))) (sRet (fVal (eC (.int 1)))) (sNil)) (sSeq (sIf (tVal (eOp2 pIn (eVar 1) (eTup (aCons (eC (.str [113, 117, 105, 99, 107])) (aCons (eC (.str [108, 97, 116, 101])) (aNil)))))) (sRet (fCall call 172 (aCons (eOp2S pIdxS (eVar 0) (eC (.int 1))) (aNil)))) (sNil)) (sSeq (sSet 2 (fVal (eC (.int 1)))) (sSeq (sFor (wItems (eFrz (fIf (tVal (eOp2 pNe (eVar 1) (eC (.str [101, 97, 99, 104])))) (fVal (eOp2S pIdxS (eVar 0) (eC (.int 1)))) (fLst (aCons (eOp2S pIdxS (eVar 0) (eC (.int 1))) (aCons (eOp2S pIdxS (eVar 0) (eC (.int 3))) (aNil))))))) (gName 3) (sSet 2 (fVal (eFrz (fCall call 165 (aCons (eVar 2) (aCons (eFrz (fCall call 172 (aCons (eVar 3) (aNil)))) (aNil)))))))) (sSeq (sIf (tVal (eOp2 pEq (eVar 1) (eC (.str [116, 117, 114, 110, 115])))) (sRet (fVal (eOp2 pMul (eVar 2) (eOp1S nLenS (eOp2S pIdxS (eVar 0) (eC (.int 1))))))) (sNil)) (sRet (fVal (eIf (tVal (eOp2 pEq (eVar 1) (eC (.str [101, 97, 99, 104])))) (eOp2 pMul (eVar 2) (eOp2S pIdxS (eVar 0) (eC (.int 2)))) (eVar 2)))))))))
def fn172 : Fn := ⟨1, 4, none, b172⟩
/-- _law_heavy -/
def b173 (call : CallT) : SM := sSeq (sSet 1 (fVal (eOp2S pIdxS (eVar 0) (eC (.int 0))))) (sSeq (sIf (tVal (eOp2 pEq (eVar 1) (eC (.str [111, 110, 101])))) (sRet (fVal (eC (.int 1)))) (sNil)) (sSeq (sSet 2 (fVal (eFrz (fLc (wItems (eFrz (fIf (tVal (eOp2 pIn (eVar 1) (eTup (aCons (eC (.str [114, 111, 119])) (aCons (eC (.str [115, 116, 97, 99, 107])) (aCons (eC (.str [116, 117, 114, 110, 115])) (aNil))))))) (fVal (eOp2S pIdxS (eVar 0) (eC (.int 1)))) (fLst (aCons (eOp2S pIdxS (eVar 0) (eC (.int 1))) (aNil)))))) [6] (gName 6) (tYes) (eFrz (fCall call 173 (aCons (eVar 6) (aNil)))))))) (sSeq (sSet 3 (fVal (eOp2 pMul (eOpN nSum (aCons (eVar 2) (aNil))) (eFrz (fCall call 172 (aCons (eVar 0) (aNil))))))) (sSeq (sIf (tVal (eOp2 pEq (eVar 1) (eC (.str [101, 97, 99, 104])))) (sSet 3 (fVal (eOp2 pAdd (eVar 3) (eOp2 pMul (eFrz (fCall call 173 (aCons (eOp2S pIdxS (eVar 0) (eC (.int 3))) (aNil)))) (eFrz (fCall call 172 (aCons (eVar 0) (aNil)))))))) (sNil)) (sSeq (sIf (tVal (eOp2 pIn (eVar 1) (eTup (aCons (eC (.str [115, 116, 97, 99, 107])) (aCons (eC (.str [102, 114, 97, 109, 101])) (aNil)))))) (sSeq (sSet 4 (fVal (eFrz (fLc (wItems (eFrz (fIf (tVal (eOp2 pEq (eVar 1) (eC (.str [115, 116, 97, 99, 107])))) (fVal (eOp2S pIdxS (eVar 0) (eC (.int 1)))) (fLst (aCons (eOp2S pIdxS (eVar 0) (eC (.int 1))) (aNil)))))) [6] (gName 6) (tYes) (eFrz (fCall call 171 (aCons (eVar 6) (aNil)))))))) (sFor (wItems (eVar 4)) (gName 5) (sSeq (sSet 7 (fVal (eFrz (fCall call 163 (aCons (eFrz (fCall call 171 (aCons (eVar 0) (aNil)))) (aCons (eTup (aCons (eOp2S pIdxS (eVar 5) (eC (.int 1))) (aCons (eOp2S pIdxS (eVar 5) (eC (.int 0))) (aNil)))) (aNil))))))) (sSet 3 (fVal (eOp2 pAdd (eVar 3) (eOp2 pMul (eVar 3) (eOp2 pDiv (eOp2S pIdxS (eVar 7) (eC (.int 0))) (eOp2S pIdxS (eVar 7) (eC (.int 1))))))))))) (sNil)) (sRet (fVal (eVar 3))))))))
def fn173 : Fn := ⟨1, 8, none, b173⟩
/-- _law_later -/
def b174 (call : CallT) : SM := sRet (fLc (wItems (eVar 0)) [2, 3] (gTup [gName 2, gName 3]) (tYes) (eTup (aCons (eFrz (fCall call 162 (aCons (eVar 2) (aCons (eVar 1) (aNil))))) (aCons (eVar 3) (aNil)))))
def fn174 : Fn := ⟨2, 4, none, b174⟩
/-- _law_many -/
def b175 (call : CallT) : SM := sSeq (sSet 3 (fVal (eFrz (fLst (aNil))))) (sSeq (sFor (wRng1 (eVar 2)) (gName 4) (sSet 3 (fVal (eOp2 pAdd (eVar 3) (eFrz (fCall call 174 (aCons (eFrz (fCall call 178 (aCons (eVar 0) (aCons (eOp2 pAdd (eVar 1) (eVar 4)) (aNil))))) (aCons (eFrz (fCall call 163 (aCons (eFrz (fCall call 171 (aCons (eVar 0) (aNil)))) (aCons (eTup (aCons (eVar 4) (aCons (eC (.int 1)) (aNil)))) (aNil))))) (aNil))))))))) (sRet (fVal (eVar 3))))
def fn175 : Fn := ⟨3, 5, none, b175⟩
/-- _law_grouped -/
def b176 (call : CallT) : SM := sSeq (sPar3 3 4 5 (fVal (eFrz (fLst (aNil)))) (fVal (eTup (aCons (eC (.int 0)) (aCons (eC (.int 1)) (aNil))))) (fVal (eFrz (fCall call 171 (aCons (eVar 0) (aNil)))))) (sSeq (sFor (wItems (eOp2S pIdxS (eVar 0) (eC (.int 1)))) (gName 2) (sSeq (sSet 6 (fVal (eFrz (fCall call 171 (aCons (eVar 2) (aNil)))))) (sIf (tVal (eOp2 pEq (eOp2S pIdxS (eVar 0) (eC (.int 0))) (eC (.str [114, 111, 119])))) (sSeq (sSet 3 (fVal (eOp2 pAdd (eVar 3) (eFrz (fCall call 174 (aCons (eFrz (fCall call 178 (aCons (eVar 2) (aCons (eVar 1) (aNil))))) (aCons (eVar 4) (aNil)))))))) (sSet 4 (fVal (eFrz (fCall call 162 (aCons (eVar 4) (aCons (eVar 6) (aNil)))))))) (sSeq (sSet 7 (fVal (eOp2S pIdxS (eFrz (fCall call 163 (aCons (eVar 5) (aCons (eTup (aCons (eOp2S pIdxS (eVar 6) (eC (.int 1))) (aCons (eOp2S pIdxS (eVar 6) (eC (.int 0))) (aNil)))) (aNil))))) (eC (.int 0))))) (sSet 3 (fVal (eOp2 pAdd (eVar 3) (eFrz (fCall call 175 (aCons (eVar 2) (aCons (eOp2 pMul (eVar 1) (eVar 7)) (aCons (eVar 7) (aNil))))))))))))) (sRet (fVal (eVar 3))))
def fn176 : Fn := ⟨2, 8, none, b176⟩
/-- _law_shaped -/
def b177 (call : CallT) : SM := sSeq (sPar 2 3 (fVal (eFrz (fCall call 171 (aCons (eVar 0) (aNil))))) (fLst (aNil))) (sSeq (sIf (tVal (eOp2 pEq (eOp2S pIdxS (eVar 0) (eC (.int 0))) (eC (.str [113, 117, 105, 99, 107])))) (sSeq (sSet 4 (fVal (eFrz (fCall call 161 (aCons (eOp2S pIdxS (eVar 0) (eC (.int 3))) (aCons (eOp2S pIdxS (eVar 0) (eC (.int 2))) (aNil))))))) (sRet (fLc (wItems (eFrz (fCall call 178 (aCons (eOp2S pIdxS (eVar 0) (eC (.int 1))) (aCons (eVar 1) (aNil)))))) [9, 10] (gTup [gName 9, gName 10]) (tYes) (eTup (aCons (eFrz (fCall call 163 (aCons (eVar 9) (aCons (eVar 4) (aNil))))) (aCons (eVar 10) (aNil))))))) (sNil)) (sSeq (sIf (tVal (eOp2 pEq (eOp2S pIdxS (eVar 0) (eC (.int 0))) (eC (.str [108, 97, 116, 101])))) (sSeq (sSet 5 (fVal (eFrz (fCall call 163 (aCons (eVar 2) (aCons (eFrz (fCall call 161 (aCons (eOp2S pIdxS (eVar 0) (eC (.int 2))) (aCons (eOp2S pIdxS (eVar 0) (eC (.int 3))) (aNil))))) (aNil))))))) (sSeq (sFor (wItems (eFrz (fCall call 174 (aCons (eFrz (fCall call 178 (aCons (eOp2S pIdxS (eVar 0) (eC (.int 1))) (aCons (eVar 1) (aNil))))) (aCons (eVar 5) (aNil)))))) (gTup [gName 9, gName 10]) (sSeq (sIf (tNot (tVal (eFrz (fCall call 164 (aCons (eVar 9) (aCons (eVar 2) (aNil))))))) (sSet 9 (fVal (eFrz (fCall call 162 (aCons (eVar 9) (aCons (eTup (aCons (eOp2 pSub (eC (.int 0)) (eOp2S pIdxS (eVar 2) (eC (.int 0)))) (aCons (eOp2S pIdxS (eVar 2) (eC (.int 1))) (aNil)))) (aNil))))))) (sNil)) (sApp 3 (eTup (aCons (eVar 9) (aCons (eVar 10) (aNil))))))) (sRetV 3))) (sNil)) (sSeq (sPar 6 7 (fVal (eFrz (fCall call 171 (aCons (eOp2S pIdxS (eVar 0) (eC (.int 1))) (aNil))))) (fVal (eC (.int 0)))) (sSeq (sFrz 3) (sSeq (sWhile (tVal (eFrz (fCall call 164 (aCons (eFrz (fCall call 163 (aCons (eVar 6) (aCons (eTup (aCons (eVar 7) (aCons (eC (.int 1)) (aNil)))) (aNil))))) (aCons (eVar 2) (aNil)))))) (sSeq (sSet 8 (fVal (eFrz (fCall call 174 (aCons (eFrz (fCall call 178 (aCons (eOp2S pIdxS (eVar 0) (eC (.int 1))) (aCons (eVar 7) (aNil))))) (aCons (eFrz (fCall call 163 (aCons (eVar 6) (aCons (eTup (aCons (eVar 7) (aCons (eC (.int 1)) (aNil)))) (aNil))))) (aNil))))))) (sSeq (sSet 3 (fVal (eOp2 pAdd (eVar 3) (eFrz (fLc (wItems (eVar 8)) [11] (gName 11) (tVal (eFrz (fCall call 164 (aCons (eOp2S pIdxS (eVar 11) (eC (.int 0))) (aCons (eVar 2) (aNil)))))) (eVar 11)))))) (sSet 7 (fVal (eOp2 pAdd (eVar 7) (eC (.int 1)))))))) (sRet (fVal (eVar 3))))))))
def fn177 : Fn := ⟨2, 12, none, b177⟩
/-- _law_turn -/
def b178 (call : CallT) : SM := sSeq (sSet 2 (fVal (eOp2S pIdxS (eVar 0) (eC (.int 0))))) (sSeq (sIf (tVal (eOp2 pEq (eVar 2) (eC (.str [111, 110, 101])))) (sRet (fIf (tVal (eOp2 pNe (eOp2S pIdxS (eVar 0) (eC (.int 1))) (eC (.str [45])))) (fLst (aCons (eTup (aCons (eTup (aCons (eC (.int 0)) (aCons (eC (.int 1)) (aNil)))) (aCons (eOp2S pIdxS (eVar 0) (eC (.int 1))) (aNil)))) (aNil))) (fLst (aNil)))) (sNil)) (sSeq (sIf (tVal (eOp2 pEq (eVar 2) (eC (.str [116, 117, 114, 110, 115])))) (sRet (fCall call 178 (aCons (eOp2S pIdxS (eOp2S pIdxS (eVar 0) (eC (.int 1))) (eOp2 pMod (eVar 1) (eOp1S nLenS (eOp2S pIdxS (eVar 0) (eC (.int 1)))))) (aCons (eOp2 pDiv (eVar 1) (eOp1S nLenS (eOp2S pIdxS (eVar 0) (eC (.int 1))))) (aNil))))) (sNil)) (sSeq (sIf (tVal (eOp2 pEq (eVar 2) (eC (.str [101, 97, 99, 104])))) (sSeq (sIf (tVal (eOp2 pEq (eOp2 pMod (eOp2 pAdd (eVar 1) (eC (.int 1))) (eOp2S pIdxS (eVar 0) (eC (.int 2)))) (eC (.int 0)))) (sRet (fCall call 178 (aCons (eOp2S pIdxS (eVar 0) (eC (.int 3))) (aCons (eOp2 pDiv (eVar 1) (eOp2S pIdxS (eVar 0) (eC (.int 2)))) (aNil))))) (sNil)) (sRet (fCall call 178 (aCons (eOp2S pIdxS (eVar 0) (eC (.int 1))) (aCons (eOp2 pSub (eVar 1) (eOp2 pDiv (eVar 1) (eOp2S pIdxS (eVar 0) (eC (.int 2))))) (aNil)))))) (sNil)) (sRet (fIf (tVal (eOp2 pIn (eVar 2) (eTup (aCons (eC (.str [114, 111, 119])) (aCons (eC (.str [115, 116, 97, 99, 107])) (aNil)))))) (fCall call 176 (aCons (eVar 0) (aCons (eVar 1) (aNil)))) (fCall call 177 (aCons (eVar 0) (aCons (eVar 1) (aNil)))))))))
def fn178 : Fn := ⟨2, 3, none, b178⟩
/-- _law_least -/
def b179 (call : CallT) : SM := sSeq (sIf (tVal (eOp2 pEq (eOp1S nLenS (eVar 1)) (eC (.int 0)))) (sRet (fVal (eTup (aCons (eTup (aCons (eC (.int 1)) (aCons (eC (.int 1)) (aNil)))) (aCons (eTup (aNil)) (aNil)))))) (sNil)) (sSeq (sSet 2 (fVal (eTup (aCons (eVar 0) (aCons (eOpN nTuple (aCons (eVar 1) (aNil))) (aNil)))))) (sSeq (sSet 3 (fVal (eOpN nDict (aCons (eVar 1) (aNil))))) (sSeq (sFor (wRng2 (eC (.int 2)) (eOp2 pAdd (eOp1S nLenS (eVar 1)) (eC (.int 1)))) (gName 4) (sSeq (sSet 5 (fVal (eFrz (fCall call 163 (aCons (eVar 0) (aCons (eTup (aCons (eC (.int 1)) (aCons (eVar 4) (aNil)))) (aNil))))))) (sSeq (sSet 6 (fVal (eC (.bl true)))) (sSeq (sFor (wItems (eVar 1)) (gTup [gName 7, gName 8]) (sSeq (sSet 9 (fVal (eFrz (fCall call 162 (aCons (eVar 7) (aCons (eVar 5) (aNil))))))) (sSeq (sIf (tNot (tVal (eFrz (fCall call 164 (aCons (eVar 9) (aCons (eVar 0) (aNil))))))) (sSet 9 (fVal (eFrz (fCall call 162 (aCons (eVar 9) (aCons (eTup (aCons (eOp2 pSub (eC (.int 0)) (eOp2S pIdxS (eVar 0) (eC (.int 0)))) (aCons (eOp2S pIdxS (eVar 0) (eC (.int 1))) (aNil)))) (aNil))))))) (sNil)) (sSet 6 (fVal (eAnd (eVar 6) (eOp2 pEq (eDGet (eVar 3) (eVar 9) (eC (.str []))) (eVar 8)))))))) (sIf (tVal (eVar 6)) (sSet 2 (fVal (eTup (aCons (eVar 5) (aCons (eOpN nTuple (aCons (eFrz (fLc (wItems (eVar 1)) [10] (gName 10) (tVal (eFrz (fCall call 164 (aCons (eOp2S pIdxS (eVar 10) (eC (.int 0))) (aCons (eVar 5) (aNil)))))) (eVar 10))) (aNil))) (aNil)))))) (sNil)))))) (sRet (fVal (eVar 2))))))
def fn179 : Fn := ⟨2, 11, none, b179⟩
/-- _law_between -/
def b180 (call : CallT) : SM := sSeq (sSet 3 (fLst (aNil))) (sSeq (sSet 4 (fVal (eOp2S pIdxS (eVar 0) (eC (.int 0))))) (sSeq (sSet 5 (fVal (eFrz (fCall call 163 (aCons (eVar 1) (aCons (eTup (aCons (eOp2S pIdxS (eVar 4) (eC (.int 1))) (aCons (eOp2S pIdxS (eVar 4) (eC (.int 0))) (aNil)))) (aNil))))))) (sSeq (sSet 6 (fVal (eOp2 pDiv (eOp2S pIdxS (eVar 5) (eC (.int 0))) (eOp2S pIdxS (eVar 5) (eC (.int 1)))))) (sSeq (sWhile (tVal (eFrz (fCall call 164 (aCons (eFrz (fCall call 163 (aCons (eVar 4) (aCons (eTup (aCons (eVar 6) (aCons (eC (.int 1)) (aNil)))) (aNil))))) (aCons (eVar 2) (aNil)))))) (sSeq (sFor (wItems (eOp2S pIdxS (eVar 0) (eC (.int 1)))) (gTup [gName 7, gName 8]) (sSeq (sSet 9 (fVal (eFrz (fCall call 162 (aCons (eFrz (fCall call 163 (aCons (eVar 4) (aCons (eTup (aCons (eVar 6) (aCons (eC (.int 1)) (aNil)))) (aNil))))) (aCons (eVar 7) (aNil))))))) (sIf (tAnd (tNot (tVal (eFrz (fCall call 164 (aCons (eVar 9) (aCons (eVar 1) (aNil))))))) (tVal (eFrz (fCall call 164 (aCons (eVar 9) (aCons (eVar 2) (aNil))))))) (sApp 3 (eTup (aCons (eVar 9) (aCons (eVar 8) (aNil))))) (sNil)))) (sSet 6 (fVal (eOp2 pAdd (eVar 6) (eC (.int 1))))))) (sRetV 3)))))
def fn180 : Fn := ⟨3, 10, none, b180⟩
/-- _law_sound -/
def b181 (call : CallT) : SM := sSeq (sSet 2 (fVal (eOp2S pIdxS (eVar 0) (eC (.int 0))))) (sSeq (sSet 3 (fVal (eFrz (fCall call 163 (aCons (eVar 1) (aCons (eTup (aCons (eOp2S pIdxS (eVar 2) (eC (.int 1))) (aCons (eOp2S pIdxS (eVar 2) (eC (.int 0))) (aNil)))) (aNil))))))) (sSeq (sSet 4 (fVal (eFrz (fCall call 163 (aCons (eVar 2) (aCons (eTup (aCons (eOp2 pDiv (eOp2S pIdxS (eVar 3) (eC (.int 0))) (eOp2S pIdxS (eVar 3) (eC (.int 1)))) (aCons (eC (.int 1)) (aNil)))) (aNil))))))) (sRet (fVal (eDGet (eOpN nDict (aCons (eFrz (fList (eOp2S pIdxS (eVar 0) (eC (.int 1))))) (aNil))) (eFrz (fCall call 162 (aCons (eVar 1) (aCons (eTup (aCons (eOp2 pSub (eC (.int 0)) (eOp2S pIdxS (eVar 4) (eC (.int 0)))) (aCons (eOp2S pIdxS (eVar 4) (eC (.int 1))) (aNil)))) (aNil))))) (eC (.str [])))))))
def fn181 : Fn := ⟨2, 5, none, b181⟩
/-- _law_machine -/
def b182 (call : CallT) : SM := sSeq (sSet 1 (fVal (eFrz (fCall call 172 (aCons (eVar 0) (aNil)))))) (sRet (fCall call 179 (aCons (eFrz (fCall call 163 (aCons (eFrz (fCall call 171 (aCons (eVar 0) (aNil)))) (aCons (eTup (aCons (eVar 1) (aCons (eC (.int 1)) (aNil)))) (aNil))))) (aCons (eFrz (fCall call 166 (aCons (eFrz (fCall call 175 (aCons (eVar 0) (aCons (eC (.int 0)) (aCons (eVar 1) (aNil)))))) (aNil)))) (aNil)))))
def fn182 : Fn := ⟨1, 2, none, b182⟩
/-- _law_taken -/
def b183 (call : CallT) : SM := sSeq (sIf (tVal (eOp2 pGt (eOp2S pIdxS (eVar 0) (eC (.int 3))) (eC (.int 0)))) (sSeq (sSet 3 (fVal (eOp2 pMod (eOpN nInt (aCons (eOp2S pIdxS (eVar 0) (eC (.int 3))) (aNil))) (eVar 1)))) (sSeq (sSetIxL (eVar 0) (eOp2 pDiv (eOp2S pIdxS (eVar 0) (eC (.int 3))) (eVar 1)) (eC (.int 3))) (sRet (fVal (eVar 3))))) (sNil)) (sSeq (sSetIxL (eVar 0) (eOp2 pAdd (eOp2S pIdxS (eVar 0) (eC (.int 1))) (eC (.int 1))) (eC (.int 1))) (sSeq (sIf (tVal (eOp2 pGt (eOp2S pIdxS (eVar 0) (eC (.int 1))) (eOp1S nLenS (eOp2S pIdxS (eVar 0) (eC (.int 0)))))) (sSeq (sSetIxL (eVar 0) (eOp2 pMod (eOpN nInt (aCons (eOp2 pAdd (eOp2 pMul (eOp2S pIdxS (eVar 0) (eC (.int 2))) (eC (.int 48271))) (eC (.int 11))) (aNil))) (eC (.int 2147483647))) (eC (.int 2))) (sRet (fVal (eOp2 pMod (eOpN nInt (aCons (eOp2 pDiv (eOp2S pIdxS (eVar 0) (eC (.int 2))) (eC (.int 7))) (aNil))) (eVar 1))))) (sNil)) (sSeq (sSet 2 (fVal (eOp2S pIdxS (eOp2S pIdxS (eVar 0) (eC (.int 0))) (eOp2 pSub (eOp2S pIdxS (eVar 0) (eC (.int 1))) (eC (.int 1)))))) (sSeq (sSetIxL (eVar 0) (eOp2 pMod (eOpN nInt (aCons (eOp2 pAdd (eOp2 pAdd (eOp2 pMul (eOp2S pIdxS (eVar 0) (eC (.int 2))) (eC (.int 48271))) (eVar 2)) (eC (.int 11))) (aNil))) (eC (.int 2147483647))) (eC (.int 2))) (sSeq (sIf (tVal (eOp2 pGe (eVar 2) (eOp2 pPow (eC (.int 10)) (eC (.int 18))))) (sSetIxL (eVar 0) (eOp2 pDiv (eVar 2) (eVar 1)) (eC (.int 3))) (sNil)) (sRet (fVal (eOp2 pMod (eOpN nInt (aCons (eVar 2) (aNil))) (eVar 1)))))))))
def fn183 : Fn := ⟨2, 4, none, b183⟩
/-- _law_rhythm -/
def b184 (call : CallT) : SM := sSeq (sSet 1 (fVal (eOp2 pAdd (eC (.int 1)) (eFrz (fCall call 183 (aCons (eVar 0) (aCons (eC (.int 4)) (aNil)))))))) (sSeq (sSet 2 (fVal (eOp2 pAdd (eC (.int 1)) (eFrz (fCall call 183 (aCons (eVar 0) (aCons (eC (.int 8)) (aNil)))))))) (sSeq (sSet 3 (fLst (aNil))) (sSeq (sFor (wRng1 (eVar 2)) (gName 4) (sIf (tVal (eOp2 pEq (eFrz (fCall call 183 (aCons (eVar 0) (aCons (eC (.int 2)) (aNil))))) (eC (.int 0)))) (sSeq (sSet 5 (fVal (eOp2S pIdxS (eFrz (fLst (aCons (eC (.str [97])) (aCons (eC (.str [98])) (aCons (eC (.str [97, 98])) (aCons (eC (.str [99])) (aCons (eC (.str [97])) (aCons (eC (.str [97, 100])) (aNil))))))))) (eFrz (fCall call 183 (aCons (eVar 0) (aCons (eC (.int 6)) (aNil)))))))) (sApp 3 (eTup (aCons (eFrz (fCall call 161 (aCons (eVar 4) (aCons (eVar 1) (aNil))))) (aCons (eVar 5) (aNil)))))) (sNil))) (sRet (fLst (aCons (eFrz (fCall call 161 (aCons (eVar 2) (aCons (eVar 1) (aNil))))) (aCons (eTupOwn 3) (aNil))))))))
def fn184 : Fn := ⟨1, 6, none, b184⟩
/-- _law_least -/
def b185 (call : CallT) : SM := sSeq (sIf (tVal (eOp2 pEq (eOp1S nLenS (eVar 1)) (eC (.int 0)))) (sRet (fVal (eTup (aCons (eTup (aCons (eC (.int 1)) (aCons (eC (.int 1)) (aNil)))) (aCons (eTup (aNil)) (aNil)))))) (sNil)) (sSeq (sSet 2 (fVal (eTup (aCons (eVar 0) (aCons (eOpN nTuple (aCons (eVar 1) (aNil))) (aNil)))))) (sSeq (sSet 3 (fVal (eOpN nDict (aCons (eVar 1) (aNil))))) (sSeq (sFor (wRng2 (eC (.int 2)) (eOp2 pAdd (eOp1S nLenS (eVar 1)) (eC (.int 1)))) (gName 4) (sSeq (sSet 5 (fVal (eFrz (fCall call 163 (aCons (eVar 0) (aCons (eTup (aCons (eC (.int 1)) (aCons (eVar 4) (aNil)))) (aNil))))))) (sSeq (sSet 6 (fVal (eC (.bl true)))) (sSeq (sFor (wItems (eVar 1)) (gTup [gName 7, gName 8]) (sSeq (sSet 9 (fVal (eFrz (fCall call 162 (aCons (eVar 7) (aCons (eVar 5) (aNil))))))) (sSeq (sIf (tNot (tVal (eFrz (fCall call 164 (aCons (eVar 9) (aCons (eVar 0) (aNil))))))) (sSet 9 (fVal (eFrz (fCall call 162 (aCons (eVar 9) (aCons (eTup (aCons (eOp2 pSub (eC (.int 0)) (eOp2S pIdxS (eVar 0) (eC (.int 0)))) (aCons (eOp2S pIdxS (eVar 0) (eC (.int 1))) (aNil)))) (aNil))))))) (sNil)) (sSet 6 (fVal (eAnd (eVar 6) (eOp2 pEq (eDGet (eVar 3) (eVar 9) (eC (.str []))) (eVar 8)))))))) (sIf (tVal (eVar 6)) (sSet 2 (fVal (eTup (aCons (eVar 5) (aCons (eOpN nTuple (aCons (eFrz (fLc (wItems (eVar 1)) [10] (gName 10) (tVal (eFrz (fCall call 164 (aCons (eOp2S pIdxS (eVar 10) (eC (.int 0))) (aCons (eVar 5) (aNil)))))) (eVar 10))) (aNil))) (aNil)))))) (sNil)))))) (sRet (fVal (eVar 2))))))
def fn185 : Fn := ⟨2, 11, none, b185⟩
/-- _law_between -/
def b186 (call : CallT) : SM := sSeq (sSet 3 (fLst (aNil))) (sSeq (sSet 4 (fVal (eOp2S pIdxS (eVar 0) (eC (.int 0))))) (sSeq (sSet 5 (fVal (eFrz (fCall call 163 (aCons (eVar 1) (aCons (eTup (aCons (eOp2S pIdxS (eVar 4) (eC (.int 1))) (aCons (eOp2S pIdxS (eVar 4) (eC (.int 0))) (aNil)))) (aNil))))))) (sSeq (sSet 6 (fVal (eOp2 pDiv (eOp2S pIdxS (eVar 5) (eC (.int 0))) (eOp2S pIdxS (eVar 5) (eC (.int 1)))))) (sSeq (sWhile (tVal (eFrz (fCall call 164 (aCons (eFrz (fCall call 163 (aCons (eVar 4) (aCons (eTup (aCons (eVar 6) (aCons (eC (.int 1)) (aNil)))) (aNil))))) (aCons (eVar 2) (aNil)))))) (sSeq (sFor (wItems (eOp2S pIdxS (eVar 0) (eC (.int 1)))) (gTup [gName 7, gName 8]) (sSeq (sSet 9 (fVal (eFrz (fCall call 162 (aCons (eFrz (fCall call 163 (aCons (eVar 4) (aCons (eTup (aCons (eVar 6) (aCons (eC (.int 1)) (aNil)))) (aNil))))) (aCons (eVar 7) (aNil))))))) (sIf (tAnd (tNot (tVal (eFrz (fCall call 164 (aCons (eVar 9) (aCons (eVar 1) (aNil))))))) (tVal (eFrz (fCall call 164 (aCons (eVar 9) (aCons (eVar 2) (aNil))))))) (sApp 3 (eTup (aCons (eVar 9) (aCons (eVar 8) (aNil))))) (sNil)))) (sSet 6 (fVal (eOp2 pAdd (eVar 6) (eC (.int 1))))))) (sRetV 3)))))
def fn186 : Fn := ⟨3, 10, none, b186⟩
/-- _law_sound -/
def b187 (call : CallT) : SM := sSeq (sSet 2 (fVal (eOp2S pIdxS (eVar 0) (eC (.int 0))))) (sSeq (sSet 3 (fVal (eFrz (fCall call 163 (aCons (eVar 1) (aCons (eTup (aCons (eOp2S pIdxS (eVar 2) (eC (.int 1))) (aCons (eOp2S pIdxS (eVar 2) (eC (.int 0))) (aNil)))) (aNil))))))) (sSeq (sSet 4 (fVal (eFrz (fCall call 163 (aCons (eVar 2) (aCons (eTup (aCons (eOp2 pDiv (eOp2S pIdxS (eVar 3) (eC (.int 0))) (eOp2S pIdxS (eVar 3) (eC (.int 1)))) (aCons (eC (.int 1)) (aNil)))) (aNil))))))) (sRet (fVal (eDGet (eOpN nDict (aCons (eFrz (fList (eOp2S pIdxS (eVar 0) (eC (.int 1))))) (aNil))) (eFrz (fCall call 162 (aCons (eVar 1) (aCons (eTup (aCons (eOp2 pSub (eC (.int 0)) (eOp2S pIdxS (eVar 4) (eC (.int 0)))) (aCons (eOp2S pIdxS (eVar 4) (eC (.int 1))) (aNil)))) (aNil))))) (eC (.str [])))))))
def fn187 : Fn := ⟨2, 5, none, b187⟩
/-- _law_common -/
def b188 (call : CallT) : SM := sSeq (sSet 2 (fVal (eFrz (fCall call 165 (aCons (eOp2S pIdxS (eOp2S pIdxS (eVar 0) (eC (.int 0))) (eC (.int 1))) (aCons (eOp2S pIdxS (eOp2S pIdxS (eVar 1) (eC (.int 0))) (eC (.int 1))) (aNil))))))) (sSeq (sSet 3 (fVal (eOp2 pMul (eOp2S pIdxS (eOp2S pIdxS (eVar 0) (eC (.int 0))) (eC (.int 0))) (eOp2 pDiv (eVar 2) (eOp2S pIdxS (eOp2S pIdxS (eVar 0) (eC (.int 0))) (eC (.int 1))))))) (sSeq (sSet 4 (fVal (eOp2 pMul (eOp2S pIdxS (eOp2S pIdxS (eVar 1) (eC (.int 0))) (eC (.int 0))) (eOp2 pDiv (eVar 2) (eOp2S pIdxS (eOp2S pIdxS (eVar 1) (eC (.int 0))) (eC (.int 1))))))) (sRet (fCall call 161 (aCons (eFrz (fCall call 165 (aCons (eVar 3) (aCons (eVar 4) (aNil))))) (aCons (eVar 2) (aNil)))))))
def fn188 : Fn := ⟨2, 5, none, b188⟩
/-- _law_is_calm -/
def b189 (call : CallT) : SM := sSeq (sSet 2 (fVal (eFrz (fCall call 165 (aCons (eOp2S pIdxS (eFrz (fProp call 112 0 (eVar 0))) (eC (.int 1))) (aCons (eOp2S pIdxS (eFrz (fProp call 112 0 (eVar 1))) (eC (.int 1))) (aNil))))))) (sSeq (sSet 3 (fVal (eOp2 pMul (eOp2S pIdxS (eFrz (fProp call 112 0 (eVar 0))) (eC (.int 0))) (eOp2 pDiv (eVar 2) (eOp2S pIdxS (eFrz (fProp call 112 0 (eVar 0))) (eC (.int 1))))))) (sSeq (sSet 4 (fVal (eOp2 pMul (eOp2S pIdxS (eFrz (fProp call 112 0 (eVar 1))) (eC (.int 0))) (eOp2 pDiv (eVar 2) (eOp2S pIdxS (eFrz (fProp call 112 0 (eVar 1))) (eC (.int 1))))))) (sSeq (sSet 5 (fVal (eFrz (fCall call 165 (aCons (eVar 3) (aCons (eVar 4) (aNil))))))) (sRet (fVal (eAnd (eOp2 pLe (eOp2 pMul (eOp2 pDiv (eVar 5) (eVar 3)) (eLenI call 115 0 (eVar 0))) (eC (.int 1000))) (eOp2 pLe (eOp2 pMul (eOp2 pDiv (eVar 5) (eVar 4)) (eLenI call 115 0 (eVar 1))) (eC (.int 1000)))))))))
def fn189 : Fn := ⟨2, 6, none, b189⟩
def ptab : List (Option Fn) := [some fn64, some fn65, some fn66, some fn67, some fn68, some fn69, some fn70, some fn71, some fn72, some fn73, some fn74, some fn75, some fn76, some fn77, some fn78, some fn79, some fn80, some fn81, some fn82, some fn83, some fn84, some fn85, some fn86, some fn87, some fn88, some fn89, some fn90, some fn91, some fn92, some fn93, some fn94, some fn95, some fn96, some fn97, some fn98, some fn99, some fn100, some fn101, some fn102, some fn103, some fn104, some fn105, some fn106, some fn107, some fn108, some fn109, some fn110, some fn111, some fn112, some fn113, some fn114, some fn115, some fn116, some fn117, some fn118, some fn119, some fn120, some fn121, some fn122, some fn123, some fn124, some fn125, some fn126, some fn127, some fn128, some fn129, some fn130, some fn131, some fn132, some fn133, none, none, some fn136, some fn137, some fn138, some fn139, some fn140, some fn141, none, none, none, some fn145, none, some fn147, some fn148, none, none, none, some fn152, none, none, none, none, none, none, none, some fn160, some fn161, some fn162, some fn163, some fn164, some fn165, some fn166, some fn167, some fn168, some fn169, some fn170, some fn171, some fn172, some fn173, some fn174, some fn175, some fn176, some fn177, some fn178, some fn179, some fn180, some fn181, some fn182, some fn183, some fn184, some fn185, some fn186, some fn187, some fn188, some fn189]
def PT (i : Nat) : Option Fn := (ptab[i - 64]?).bind fun x => x
end BP
set_option Elab.async false
set_option linter.all false
set_option maxRecDepth 100000
namespace BR
open PySem PySem.Spec PyProof.Rows L2
end BR
set_option Elab.async false
set_option linter.all false
set_option maxRecDepth 100000
namespace BR
open PySem PySem.Spec PyProof.Rows L2
def popQ (ρ : BR.Env) (i : Nat) (xs : List PV) (p : PV) (st : Store) : SR := match p with
  | .int k => if 0 ≤ k ∧ k < xs.length ∧ xs.length ≤ lim then .next (ρ.set i (.own (xs.eraseIdx k.toNat))) st else .bad
  | _ => .bad
def sPop (i : Nat) (m : EM) : SM := fun ρ st => match ρ[i]? with
  | some (.own xs) => (m ρ st).bindS ρ fun p st1 => popQ ρ i xs p st1
  | _ => .bad
theorem RepVs.del {c : Cn} {G : Gh} : ∀ {vs : List V} {ps : List PV} (k : Nat), RepVs c G vs ps → RepVs c G (vs.eraseIdx k) (ps.eraseIdx k)
  | _, _, _, .nil => .nil
  | _, _, 0, .cons _ r => r
  | _, _, k + 1, .cons r rs => .cons r (rs.del k)
section
variable {cm : Nat → Option Addr} {X : Cx} {W : WX} {m : EM} {e : Expr} {x : Str} {pos : Pos}
theorem cs_pop (i : Nat) {p1 apos cpos : Pos} (he : CE cm X W m e) (hN : X.N[i]? = some x := by rfl) (hv : Vis X.env.scope x := by first | exact Or.inl rfl | exact Or.inr (Or.inl rfl) | exact Or.inr (Or.inr rfl)) (hd : (x == ("__debug__" : Str)) = false := by decide)
    (hcd : (x == ("__classdict__" : Str)) = false := by decide) (hs0 : starEach [e] X.env = (false, eval e X.env) :: starEach [] X.env := by rfl)
    (hbase : attributeBase (.Name x p1) "pop" X.env (eval (.Name x p1) X.env) = eval (.Name x p1) X.env := by rfl)
    (hfew : ((backTo cpos (starEach [e] X.env)).all (fun x => !x.1) && (backToKw cpos (keywordEach [] X.env)).all (fun x => x.1.isSome) && decide ([e].length + ([] : List Keyword).length + (if ([] : List Keyword).isEmpty then 0 else 1) < 30)) = true := by rfl)
    (hline : (apos.endLine == cpos.line) = true := by rfl) : CS cm X W (sPop i m) (.Expr (.Call (.Attribute (.Name x p1) "pop" apos) [e] [] cpos) pos) :=
  PS.weak (ps_expr (pe_bm PySem.F.plainAttrs_list PySem.F.slot_list_pop PySem.F.type_list_pop mt_popAt (pe_var hN hv hd hcd) (pa_cons he pa_nil hs0) hbase hfew hline hs0 rfl) swaps_call) fun D σ H ⟨B, ρ, st, G, R, h⟩ => by
    obtain ⟨xs, hr, h⟩ := out_own h
    obtain ⟨a, vs, hσ, ha, ra, n1, n2, n3⟩ := R.ownAt hr
    refine ⟨_, hσ, ty_list ha, B, ρ, st, G, R, OutS.bind R h fun p st1 H1 G1 y s1 R1 rx h1 => ?_⟩
    cases rx with
    | @int k =>
      by_cases hl : 0 ≤ k ∧ k < xs.length ∧ xs.length ≤ lim
      · have h1 : OutS _ _ _ _ _ (if 0 ≤ k ∧ k < xs.length ∧ xs.length ≤ lim then SR.next (ρ.set i (.own (xs.eraseIdx k.toNat))) st1 else .bad) := h1
        rw [if_pos hl] at h1
        have hlim : lim = 1000000 := rfl
        obtain ⟨k0, k1, k2⟩ := hl
        have ha1 := s1.keep _ _ ha n2
        have len := ra.len
        have hk : k.toNat < xs.length := by omega
        obtain ⟨z, hz, rz⟩ := ra.get (i := k.toNat) (p := xs[k.toNat]) (List.getElem?_eq_getElem hk)
        refine ⟨a, vs, k, k.toNat, z, rfl, rfl, ha1, by omega, by omega, seqIndex_of k0 (by omega), hz, ?_⟩
        exact h1 σ _ G1 (.refl G1) (R1.setOwn hr hσ ha1 (s1.nfz _ _ ha n1) (s1.nio _ _ ha n2) n3 ((ra.up s1.toGExt).del k.toNat))
      · have h1 : OutS _ _ _ _ _ (if 0 ≤ k ∧ k < xs.length ∧ xs.length ≤ lim then SR.next (ρ.set i (.own (xs.eraseIdx k.toNat))) st1 else .bad) := h1
        rw [if_neg hl] at h1
        exact h1.elim
    | _ => exact h1.elim
end
end BR
set_option Elab.async false
set_option linter.all false
set_option maxRecDepth 100000
namespace BR
open PySem PySem.Spec PyProof.Rows L2
def eNilD : EM := fun _ st => .ok (.dct [] []) st
section
variable {cm : Nat → Option Addr} {X : Cx} {W : WX} {pos : Pos}
def tDNewN (X : Cx) : TE := fun _ H Q => ∀ p, H p = none → Q (.ref p) (upd H p (DHO X.prog X.w p []))
theorem pe_dnewN : PE X (.Dict [] [] pos) (tDNewN X) := ⟨fun pins s σ H Q I h =>
  wpAny_Dict_empty ⟨.ref s.heap.objs.size, _, I.laid (a := s.heap.objs.size) (o := DHO X.prog X.w s.heap.objs.size []) (t' := s.toks) (fun _ _ q => Heap.get?_push_of_some _ q) (Nat.le_refl _) (dat_nil I.big), rfl, h _ (I.hok.fresh (Nat.le_refl _))⟩⟩
theorem ce_dnil : CE cm X W eNilD (.Dict [] [] pos) := PE.weak pe_dnewN fun σ H Q ⟨B, ρ, st, G, R, h⟩ => fun p hp => by
  obtain ⟨S2, s2⟩ := R.toSRel.freeze (o := DHO X.prog X.w p []) hp
  exact h _ _ (.ref p) s2 S2 (.dct (es := []) (by show upd G.fz p _ p = _; exact upd_same) rfl .nil .nil)
end
end BR
set_option Elab.async false
set_option linter.all false
set_option maxRecDepth 100000
namespace BR
open PySem PySem.Spec PyProof.Rows L2
def pickQ (call : CallT) (i j : Nat) (ar : AM) (ρ : BR.Env) (p : PV) (st : Store) : R SV := match p with
  | .int 0 => fCall call i ar ρ st
  | .int 1 => fCall call j ar ρ st
  | _ => .bad
def fPick (call : CallT) (i j : Nat) (m : EM) (ar : AM) : FM := fun ρ st => (m ρ st).bind fun p st1 => pickQ call i j ar ρ p st1
def tPick (K : PySem.W.Frag) (f g : Addr) (sp1 sp2 : Sp) (E : L2.St → XK) (tk : TE) (t : TA) : TE := fun σ H Q => ∀ p, H p = none → tk σ (upd H p (.lst [.ref f, .ref g])) fun y H1 => rIx K (.ref p) y H1 fun v H2 =>
  (v = .ref f ∧ t σ H2 fun vs H3 => sp1 vs H3 Q (E σ)) ∨ (v = .ref g ∧ t σ H2 fun vs H3 => sp2 vs H3 Q (E σ))
theorem arm_call_sub (a b : Expr) (q : Pos) (args : List Expr) (keywords : List Keyword) (pos : Pos) (env : PySem.Env) : eval (.Call (.Subscript a b q) args keywords pos) env = (do
    callWith pos (← eval (.Subscript a b q) env) [] (backTo pos (starEach args env)) (backToKw pos (keywordEach keywords env))) := rfl
section
variable {cm : Nat → Option Addr} {X : Cx} {W : WX} {pos p q1 q2 ql qs : Pos} {call : CallT} {i j k : Nat} {f g : Addr} {fd gd : FuncData} {ps ps2 : List Str} {x y : Str} {ar : AM} {m : EM} {e ke : Expr} {es : List Expr} {sp1 sp2 : Sp} {E : L2.St → XK} {CX : CXT} {tk : TE} {t : TA}
theorem pe_pick (F : FnOk X.prog X.w X.K X.mg X.base CX k f fd ps sp1) (F2 : FnOk X.prog X.w X.K X.mg X.base CX k g gd ps2 sp2) (hr : Room k X.A) (hg : Gl X x) (hm : X.mg x = some (.ref f)) (hk : PySem.W.keepIn X.K (.ref f) = true) (hg2 : Gl X y) (hm2 : X.mg y = some (.ref g)) (hk2 : PySem.W.keepIn X.K (.ref g) = true)
    (hb : Binds X.K fd ps []) (hb2 : Binds X.K gd ps2 []) (hx : ∀ σ, PassesAt CX X σ (E σ)) (hK : PE X ke tk) (hs : PlainIx ke) (ha : PA X (e :: es) t) (hd1 : (x == ("__debug__" : Str)) = false) (hd2 : (y == ("__debug__" : Str)) = false)
    (hl : starEach [.Name x q1, .Name y q2] X.env = (false, eval (.Name x q1) X.env) :: starEach [.Name y q2] X.env) (hl2 : starEach [.Name y q2] X.env = (false, eval (.Name y q2) X.env) :: starEach [] X.env)
    (he : starEach (e :: es) X.env = (false, eval e X.env) :: starEach es X.env) (hpl : (backTo pos (starEach es X.env)).any (·.1) = false) :
    PE X (.Call (.Subscript (.List [.Name x q1, .Name y q2] ql) ke qs) (e :: es) [] pos) (tPick X.K f g sp1 sp2 E tk t) := by
  refine ⟨fun pins s σ H Q I h => ?_⟩
  rw [arm_call_sub]
  refine wpAny_bind ?_
  have P := pe_ix (pos := qs) ix_seq (pe_lst (pos := ql) (pa_cons (pe_glob (pos := q1) hg hm (v := .ref f) rfl hd1) (pa_cons (pe_glob (pos := q2) hg2 hm2 (v := .ref g) rfl hd2) pa_nil hl2) hl)) hK hs
  refine thn (P.run pins s σ H (fun v H1 => (v = .ref f ∧ t σ H1 fun vs H2 => sp1 vs H2 Q (E σ)) ∨ (v = .ref g ∧ t σ H1 fun vs H2 => sp2 vs H2 Q (E σ))) I ?_) fun u s1 ⟨v, H1, I1, r1, q⟩ => ?_
  · exact ⟨show 2 ≤ sizeLine by decide, fun p hp => h p hp⟩
  · rcases q with ⟨rfl, q⟩ | ⟨rfl, q⟩
    · cases r1
      refine PySem.W.callWith_K (h₀ := X.base) I.ok.mod.kin hk (thn (ha.run pos pins s1 σ H1 _ I1 q) fun us s2 ⟨vs, H2, I2, r, q⟩ => ⟨I2.kIn, ?_⟩) he hpl
      exact run_fnS F hr hb (hx σ) I2 r q
    · cases r1
      refine PySem.W.callWith_K (h₀ := X.base) I.ok.mod.kin hk2 (thn (ha.run pos pins s1 σ H1 _ I1 q) fun us s2 ⟨vs, H2, I2, r, q⟩ => ⟨I2.kIn, ?_⟩) he hpl
      exact run_fnS F2 hr hb2 (hx σ) I2 r q
theorem cf_pick {id id2 : Nat} (F : FnOk X.prog X.w X.K X.mg X.base (L2.CX X.prog X.w) k f fd ps (spF (cnOf X cm) (call id))) (F2 : FnOk X.prog X.w X.K X.mg X.base (L2.CX X.prog X.w) k g gd ps2 (spF (cnOf X cm) (call id2))) (hr : Room k X.A)
    (hm : X.mg x = some (.ref f)) (hk : PySem.W.keepIn X.K (.ref f) = true) (hm2 : X.mg y = some (.ref g)) (hk2 : PySem.W.keepIn X.K (.ref g) = true) (hb : Binds X.K fd ps []) (hb2 : Binds X.K gd ps2 []) (tk : Takes X W) (hK : CE cm X W m ke) (ha : CA cm X W ar (e :: es))
    (hs : PlainIx ke := by exact fun _ _ => rfl) (hg : Gl X x := by rfl) (hg2 : Gl X y := by rfl) (hd1 : (x == ("__debug__" : Str)) = false := by decide) (hd2 : (y == ("__debug__" : Str)) = false := by decide)
    (hl : starEach [.Name x q1, .Name y q2] X.env = (false, eval (.Name x q1) X.env) :: starEach [.Name y q2] X.env := by rfl) (hl2 : starEach [.Name y q2] X.env = (false, eval (.Name y q2) X.env) :: starEach [] X.env := by rfl)
    (he : starEach (e :: es) X.env = (false, eval e X.env) :: starEach es X.env := by rfl) (hpl : (backTo pos (starEach es X.env)).any (·.1) = false := by rfl) :
    CF cm X W (fPick call id id2 m ar) (.Call (.Subscript (.List [.Name x q1, .Name y q2] ql) ke qs) (e :: es) [] pos) :=
  PE.weak (pe_pick F F2 hr hg hm hk hg2 hm2 hk2 hb hb2 (passAt tk) hK hs ha hd1 hd2 hl hl2 he hpl) fun σ H Q ⟨B, ρ, st, G, R, h⟩ => fun p hp => by
    obtain ⟨S2, s2⟩ := R.toSRel.fresh (o := .lst [.ref f, .ref g]) hp
    have n2 := R.toSRel.notIo hp
    refine ⟨B, ρ, st, G, R.step s2 S2, Out.bindR early_F (R.step s2 S2) (h.later early_F s2) fun pv st1 H1 G1 v s1 R1 rv h1 => ?_⟩
    have hl : H1 p = some (.lst [.ref f, .ref g]) := s1.keep _ _ upd_same n2
    cases rv with
    | @int i =>
      by_cases i0 : i = 0
      · subst i0
        exact .inl ⟨p, _, 0, .ref f, rfl, rfl, SqL.of hl, rfl, .inl ⟨rfl, B, ρ, st1, G1, R1, Out.bindR early_F R1 h1 fun qs st2 H2 G2 xs s3 R2 rx h2 => ⟨qs, st2, G2, R2.toSRel, rx, h2⟩⟩⟩
      · by_cases i1 : i = 1
        · subst i1
          exact .inl ⟨p, _, 1, .ref g, rfl, rfl, SqL.of hl, rfl, .inr ⟨rfl, B, ρ, st1, G1, R1, Out.bindR early_F R1 h1 fun qs st2 H2 G2 xs s3 R2 rx h2 => ⟨qs, st2, G2, R2.toSRel, rx, h2⟩⟩⟩
        · exfalso
          have hb : pickQ call id id2 ar ρ (.int i) st1 = .bad := by
            unfold pickQ
            split
            · rename_i q; cases q; exact absurd rfl i0
            · rename_i q; cases q; exact absurd rfl i1
            · rfl
          rw [hb] at h1
          exact h1
    | _ => exact h1.elim
end
end BR
set_option Elab.async false
set_option linter.all false
set_option pp.deepTerms false
set_option maxRecDepth 100000
set_option maxHeartbeats 0
namespace K10
open PySem PySem.Spec PyProof.Rows L2 BR BP
open He (ga ma)
def cm (K : PySem.W.Frag) : Nat → Option Addr
  | 8 => some (ga K "InvalidHeard")
  | _ => none
def catch_InvalidHeard_t : Nat → Option Bool
  | 8 => some true
  | _ => none
/-- law -/
def b0 (call : CallT) : SM := sSeq (sSet 1 (fVal (eNewL (fLst (aCons (eVar 0) (aCons (eC (.int 0)) (aCons (eC (.int 20)) (aCons (eC (.int 0)) (aNil))))))))) (sSeq (sFor (wRng1 (eC (.int 3))) (gName 2) (sSeq (sAsg (eFrz (fCall call 184 (aCons (eVar 1) (aNil)))) (gTup [gName 11, gName 12])) (sSeq (sSet 4 (fVal (eFrz (fCall call 162 (aCons (eFrz (fCall call 163 (aCons (eVar 11) (aCons (eTup (aCons (eOp2 pAdd (eC (.int 1)) (eFrz (fCall call 183 (aCons (eVar 1) (aCons (eC (.int 3)) (aNil)))))) (aCons (eC (.int 1)) (aNil)))) (aNil))))) (aCons (eFrz (fCall call 161 (aCons (eOp2 pAdd (eC (.int 1)) (eFrz (fCall call 183 (aCons (eVar 1) (aCons (eC (.int 5)) (aNil)))))) (aCons (eC (.int 2)) (aNil))))) (aNil))))))) (sSeq (sSet 5 (fCall call 186 (aCons (eFrz (fCall call 185 (aCons (eVar 11) (aCons (eVar 12) (aNil))))) (aCons (eTup (aCons (eC (.int 0)) (aCons (eC (.int 1)) (aNil)))) (aCons (eVar 4) (aNil)))))) (sSeq (sIf (tAnd (tVal (eOp2 pGt (eLenOwn 5) (eC (.int 0)))) (tVal (eOp2 pEq (eFrz (fCall call 183 (aCons (eVar 1) (aCons (eC (.int 3)) (aNil))))) (eC (.int 0))))) (sPop 5 (eFrz (fCall call 183 (aCons (eVar 1) (aCons (eLenOwn 5) (aNil)))))) (sNil)) (sSeq (sSet 6 (fVal (eFrz (fCall call 161 (aCons (eOp2 pAdd (eC (.int 1)) (eFrz (fCall call 183 (aCons (eVar 1) (aCons (eC (.int 3)) (aNil)))))) (aCons (eOp2 pAdd (eC (.int 1)) (eFrz (fCall call 183 (aCons (eVar 1) (aCons (eC (.int 4)) (aNil)))))) (aNil))))))) (sSeq (sPar 13 14 (fLst (aNil)) (fVal (eC (.int 1)))) (sSeq (sFrz 5) (sSeq (sWhile (tNot (tVal (eFrz (fCall call 164 (aCons (eVar 4) (aCons (eFrz (fCall call 163 (aCons (eVar 6) (aCons (eTup (aCons (eVar 14) (aCons (eC (.int 1)) (aNil)))) (aNil))))) (aNil))))))) (sSeq (sIf (tVal (eFrz (fCall call 1 (aCons (eVar 5) (aCons (eVar 4) (aCons (eFrz (fCall call 163 (aCons (eVar 6) (aCons (eTup (aCons (eVar 14) (aCons (eC (.int 1)) (aNil)))) (aNil))))) (aNil))))))) (sApp 13 (eFrz (fCall call 163 (aCons (eVar 6) (aCons (eTup (aCons (eVar 14) (aCons (eC (.int 1)) (aNil)))) (aNil)))))) (sNil)) (sSet 14 (fVal (eOp2 pAdd (eVar 14) (eC (.int 1))))))) (sSeq (sFrz 13) (sSeq (sIf (tOr (tVal (eOp2 pNe (eFrz (fCall call 138 (aCons (eVar 5) (aCons (eVar 4) (aCons (eVar 6) (aNil)))))) (eVar 13))) (tVal (eOp2 pNe (eFrz (fCall call 138 (aCons (eOpN nTuple (aCons (eVar 5) (aNil))) (aCons (eVar 4) (aCons (eVar 6) (aNil)))))) (eVar 13)))) (sRet (fVal (eC (.bl false)))) (sNil)) (sSeq (sSet 7 (fVal (eFrz (fCall call 140 (aCons (eVar 5) (aCons (eVar 4) (aCons (eVar 6) (aNil)))))))) (sSeq (sIf (tVal (eOp2 pNe (eFrz (fListD (eVar 7))) (eVar 13))) (sRet (fVal (eC (.bl false)))) (sNil)) (sFor (wItems (eVar 13)) (gName 8) (sIf (tVal (eOp2 pNe (eOp2 pDIdx (eVar 7) (eVar 8)) (eFrz (fCall call 2 (aCons (eVar 5) (aCons (eVar 4) (aCons (eVar 8) (aNil)))))))) (sRet (fVal (eC (.bl false)))) (sNil)))))))))))))))) (sSeq (sSet 3 (fVal (eFrz (fLst (aCons (eC .non) (aCons (eC (.str [97, 98])) (aCons (eNilD) (aCons (eFrz (fLst (aCons (eTup (aCons (eTup (aCons (eC (.int 9)) (aCons (eC (.int 1)) (aNil)))) (aCons (eC (.str [97])) (aNil)))) (aNil)))) (aCons (eFrz (fLst (aCons (eTup (aCons (eTup (aCons (eC (.int 1)) (aCons (eC (.int 1)) (aNil)))) (aCons (eC (.str [97])) (aNil)))) (aCons (eTup (aCons (eTup (aCons (eC (.int 0)) (aCons (eC (.int 1)) (aNil)))) (aCons (eC (.str [97])) (aNil)))) (aNil))))) (aCons (eFrz (fLst (aCons (eTup (aCons (eTup (aCons (eC (.int 0)) (aCons (eC (.int 1)) (aNil)))) (aCons (eC (.str [])) (aNil)))) (aNil)))) (aCons (eFrz (fLst (aCons (eC (.int 0)) (aNil)))) (aCons (eFrz (fLst (aCons (eTup (aCons (eTup (aCons (eC (.int 0)) (aCons (eC (.int 2)) (aNil)))) (aCons (eC (.str [97])) (aNil)))) (aNil)))) (aNil))))))))))))) (sSeq (sIf (tNot (tVal (eFrz (fCall call 3 (aCons (eOp2S pIdxS (eVar 3) (eFrz (fCall call 183 (aCons (eVar 1) (aCons (eOp1S nLenS (eVar 3)) (aNil)))))) (aCons (eTup (aCons (eC (.int 9)) (aCons (eC (.int 1)) (aNil)))) (aCons (eTup (aCons (eC (.int 1)) (aCons (eC (.int 1)) (aNil)))) (aCons (eFrz (fCall call 183 (aCons (eVar 1) (aCons (eC (.int 2)) (aNil))))) (aNil))))))))) (sRet (fVal (eC (.bl false)))) (sNil)) (sSeq (sSet 3 (fVal (eFrz (fLst (aCons (eC .non) (aCons (eC (.int 0)) (aCons (eTup (aCons (eC (.int 0)) (aCons (eC (.int 1)) (aNil)))) (aCons (eTup (aCons (eOp1 pNeg (eC (.int 1))) (aCons (eC (.int 1)) (aNil)))) (aCons (eTup (aCons (eC (.int 2)) (aCons (eC (.int 4)) (aNil)))) (aCons (eC (.int 3)) (aCons (eC (.str [49])) (aNil)))))))))))) (sSeq (sPar 9 10 (fVal (eOp2S pIdxS (eVar 3) (eFrz (fCall call 183 (aCons (eVar 1) (aCons (eOp1S nLenS (eVar 3)) (aNil))))))) (fVal (eFrz (fCall call 183 (aCons (eVar 1) (aCons (eC (.int 2)) (aNil))))))) (sRet (fVal (eAnd (eFrz (fCall call 3 (aCons (eFrz (fLst (aNil))) (aCons (eVar 9) (aCons (eTup (aCons (eC (.int 1)) (aCons (eC (.int 1)) (aNil)))) (aCons (eVar 10) (aNil))))))) (eFrz (fCall call 3 (aCons (eFrz (fLst (aNil))) (aCons (eTup (aCons (eC (.int 1)) (aCons (eC (.int 1)) (aNil)))) (aCons (eVar 9) (aCons (eVar 10) (aNil)))))))))))))))
/-- _law_may -/
def b1 (call : CallT) : SM := sSeq (sSet 3 (fVal (eOpN nDict (aCons (eVar 0) (aNil))))) (sSeq (sSet 4 (fVal (eFrz (fLc (wItems (eVar 0)) [5, 8] (gTup [gName 5, gName 8]) (tYes) (eVar 5))))) (sSeq (sFor (wItems (eVar 4)) (gName 5) (sSeq (sSet 6 (fVal (eFrz (fCall call 162 (aCons (eVar 5) (aCons (eVar 2) (aNil))))))) (sSeq (sSet 7 (fVal (eFrz (fCall call 162 (aCons (eVar 5) (aCons (eTup (aCons (eOp2 pSub (eC (.int 0)) (eOp2S pIdxS (eVar 2) (eC (.int 0)))) (aCons (eOp2S pIdxS (eVar 2) (eC (.int 1))) (aNil)))) (aNil))))))) (sSeq (sIf (tAnd (tVal (eFrz (fCall call 164 (aCons (eVar 6) (aCons (eVar 1) (aNil)))))) (tVal (eOp2 pNe (eDGet (eVar 3) (eVar 6) (eC (.str []))) (eOp2 pDIdx (eVar 3) (eVar 5))))) (sRet (fVal (eC (.bl false)))) (sNil)) (sIf (tAnd (tVal (eOp2 pGe (eOp2S pIdxS (eVar 7) (eC (.int 0))) (eC (.int 0)))) (tVal (eOp2 pNe (eDGet (eVar 3) (eVar 7) (eC (.str []))) (eOp2 pDIdx (eVar 3) (eVar 5))))) (sRet (fVal (eC (.bl false)))) (sNil)))))) (sRet (fVal (eC (.bl true))))))
/-- _law_next -/
def b2 (call : CallT) : SM := sSeq (sSet 3 (fVal (eFrz (fLc (wItems (eVar 0)) [5] (gName 5) (tVal (eFrz (fCall call 164 (aCons (eOp2S pIdxS (eVar 5) (eC (.int 0))) (aCons (eVar 2) (aNil)))))) (eVar 5))))) (sSeq (sIf (tVal (eOp2 pEq (eVar 3) (eFrz (fLst (aNil))))) (sRet (fVal (eC .non))) (sNil)) (sSeq (sSet 4 (fVal (eFrz (fCall call 186 (aCons (eTup (aCons (eVar 2) (aCons (eOpN nTuple (aCons (eVar 3) (aNil))) (aNil)))) (aCons (eVar 1) (aCons (eFrz (fCall call 162 (aCons (eVar 1) (aCons (eFrz (fCall call 162 (aCons (eVar 2) (aCons (eVar 2) (aNil))))) (aNil))))) (aNil)))))))) (sRet (fVal (eOp2S pIdxS (eVar 4) (eC (.int 0)))))))
/-- _law_refused -/
def b3 (call : CallT) : SM := sSeq (sSet 4 (fVal (eC (.bl false)))) (sSeq (sTry (sDrop (eFrz (fPick call 138 140 (eVar 3) (aCons (eVar 0) (aCons (eVar 1) (aCons (eVar 2) (aNil))))))) [(catch_InvalidHeard_t, sSet 4 (fVal (eC (.bl true))))]) (sRet (fVal (eVar 4))))
def fn0 : Fn := ⟨1, 15, none, b0⟩
def fn1 : Fn := ⟨3, 9, none, b1⟩
def fn2 : Fn := ⟨3, 6, none, b2⟩
def fn3 : Fn := ⟨4, 5, none, b3⟩
def tab : List (Option Fn) := [some fn0, some fn1, some fn2, some fn3, none, none, none, none, none, none, none, none, none, none, none, none, none, none, none, none, none, none, none, none, none, none, none, none, none, none, none, none, none, none, none, none, none, none, none, none, none, none, none, none, none, none, none, none, none, none, none, none, none, none, none, none, none, none, none, none, none, none, none, none, some fn64, some fn65, none, some fn67, some fn68, some fn69, some fn70, some fn71, some fn72, some fn73, some fn74, some fn75, none, none, none, none, none, none, none, none, none, none, none, none, none, none, none, none, none, none, none, none, none, none, none, none, none, none, none, none, none, some fn105, some fn106, some fn107, some fn108, none, none, none, none, none, none, none, none, none, none, none, none, none, none, none, none, none, none, none, none, none, none, none, none, none, none, none, some fn136, some fn137, some fn138, some fn139, some fn140, none, none, none, none, none, none, none, none, none, none, none, none, none, none, none, none, none, none, none, none, some fn161, some fn162, some fn163, some fn164, none, none, none, none, none, none, none, none, none, none, none, none, none, none, none, none, none, none, some fn183, some fn184, some fn185, some fn186]
def T (i : Nat) : Option Fn := (tab[i]?).bind fun x => x
section
abbrev PR : Program := (PySem.Challenge.rw_beatrounds_k10_whole_heard).prog
variable {w : World} {K : PySem.W.Frag} {mg : Str → Option Value} {base : Heap}
theorem sc0 : FnScope ["_law_script", "_law_row", "_law_turn", "_law_odd", "_law_until", "_law_some", "_law_grid", "_law_told", "_law_one", "_law_bad", "_law_kind", "_law_period", "_law_beats_here", "_law_due", "_law_k"] ["_law_script"] (defScope s0) := ⟨rfl, rfl, rfl, by decide +kernel, rfl, by decide +kernel, by decide +kernel⟩
theorem sc184 : FnScope ["_law_row", "_law_parts", "_law_many", "_law_beats_here", "_law_k", "_law_letters"] ["_law_row"] (defScope s184) := ⟨rfl, rfl, rfl, by decide +kernel, rfl, by decide +kernel, by decide +kernel⟩
theorem sc162 : FnScope ["_law_one", "_law_mate"] ["_law_one", "_law_mate"] (defScope s162) := ⟨rfl, rfl, rfl, by decide +kernel, rfl, by decide +kernel, by decide +kernel⟩
theorem sc163 : FnScope ["_law_one", "_law_mate"] ["_law_one", "_law_mate"] (defScope s163) := ⟨rfl, rfl, rfl, by decide +kernel, rfl, by decide +kernel, by decide +kernel⟩
theorem sc183 : FnScope ["_law_row", "_law_many", "_law_cell", "_law_found"] ["_law_row", "_law_many"] (defScope s183) := ⟨rfl, rfl, rfl, by decide +kernel, rfl, by decide +kernel, by decide +kernel⟩
theorem sc161 : FnScope ["_law_number", "_law_parts", "_law_one", "_law_mate"] ["_law_number", "_law_parts"] (defScope s161) := ⟨rfl, rfl, rfl, by decide +kernel, rfl, by decide +kernel, by decide +kernel⟩
theorem sc186 : FnScope ["_law_mech", "_law_start", "_law_end", "_law_found", "_law_size", "_law_first", "_law_k", "_law_time", "_law_letters", "_law_here"] ["_law_mech", "_law_start", "_law_end"] (defScope s186) := ⟨rfl, rfl, rfl, by decide +kernel, rfl, by decide +kernel, by decide +kernel⟩
theorem sc185 : FnScope ["_law_period", "_law_beats_here", "_law_best", "_law_known", "_law_part", "_law_size", "_law_good", "_law_time", "_law_letters", "_law_later", "_law_beat"] ["_law_period", "_law_beats_here"] (defScope s185) := ⟨rfl, rfl, rfl, by decide +kernel, rfl, by decide +kernel, by decide +kernel⟩
theorem sc164 : FnScope ["_law_one", "_law_mate"] ["_law_one", "_law_mate"] (defScope s164) := ⟨rfl, rfl, rfl, by decide +kernel, rfl, by decide +kernel, by decide +kernel⟩
theorem sc1 : FnScope ["_law_beats_here", "_law_until", "_law_period", "_law_known", "_law_times_here", "_law_time", "_law_later", "_law_before", "_law_letters"] ["_law_beats_here", "_law_until", "_law_period"] (defScope s1) := ⟨rfl, rfl, rfl, by decide +kernel, rfl, by decide +kernel, by decide +kernel⟩
theorem sc138 : FnScope ["beats", "until", "grid", "many", "known", "found", "period"] ["beats", "until", "grid"] (defScope s138) := ⟨rfl, rfl, rfl, by decide +kernel, rfl, by decide +kernel, by decide +kernel⟩
theorem sc140 : FnScope ["beats", "until", "grid", "period"] ["beats", "until", "grid"] (defScope s140) := ⟨rfl, rfl, rfl, by decide +kernel, rfl, by decide +kernel, by decide +kernel⟩
theorem sc2 : FnScope ["_law_beats_here", "_law_until", "_law_period", "_law_some", "_law_found", "_law_beat"] ["_law_beats_here", "_law_until", "_law_period"] (defScope s2) := ⟨rfl, rfl, rfl, by decide +kernel, rfl, by decide +kernel, by decide +kernel⟩
theorem sc3 : FnScope ["_law_beats_here", "_law_until", "_law_grid", "_law_kind", "_law_told"] ["_law_beats_here", "_law_until", "_law_grid", "_law_kind"] (defScope s3) := ⟨rfl, rfl, rfl, by decide +kernel, rfl, by decide +kernel, by decide +kernel⟩
theorem sc136 : FnScope ["beats", "until", "grid"] ["beats", "until", "grid"] (defScope s136) := ⟨rfl, rfl, rfl, by decide +kernel, rfl, by decide +kernel, by decide +kernel⟩
theorem sc74 : FnScope ["one"] ["one"] (defScope s74) := ⟨rfl, rfl, rfl, by decide +kernel, rfl, by decide +kernel, by decide +kernel⟩
theorem sc72 : FnScope ["one", "other"] ["one", "other"] (defScope s72) := ⟨rfl, rfl, rfl, by decide +kernel, rfl, by decide +kernel, by decide +kernel⟩
theorem sc71 : FnScope ["one", "other"] ["one", "other"] (defScope s71) := ⟨rfl, rfl, rfl, by decide +kernel, rfl, by decide +kernel, by decide +kernel⟩
theorem sc137 : FnScope ["beats", "known", "until", "period", "time", "letters", "later", "earlier"] ["beats", "known", "until", "period"] (defScope s137) := ⟨rfl, rfl, rfl, by decide +kernel, rfl, by decide +kernel, by decide +kernel⟩
theorem sc139 : FnScope ["beats", "until", "period", "found", "time", "letters", "many", "here"] ["beats", "until", "period"] (defScope s139) := ⟨rfl, rfl, rfl, by decide +kernel, rfl, by decide +kernel, by decide +kernel⟩
theorem sc105 : FnScope ["value"] ["value"] (defScope s105) := ⟨rfl, rfl, rfl, by decide +kernel, rfl, by decide +kernel, by decide +kernel⟩
theorem sc108 : FnScope ["value", "end", "beat", "one", "other"] ["value", "end"] (defScope s108) := ⟨rfl, rfl, rfl, by decide +kernel, rfl, by decide +kernel, by decide +kernel⟩
theorem sc67 : FnScope ["number", "parts", "divisor"] ["number", "parts"] (defScope s67) := ⟨rfl, rfl, rfl, by decide +kernel, rfl, by decide +kernel, by decide +kernel⟩
theorem sc69 : FnScope ["one", "other"] ["one", "other"] (defScope s69) := ⟨rfl, rfl, rfl, by decide +kernel, rfl, by decide +kernel, by decide +kernel⟩
theorem sc70 : FnScope ["one", "other"] ["one", "other"] (defScope s70) := ⟨rfl, rfl, rfl, by decide +kernel, rfl, by decide +kernel, by decide +kernel⟩
theorem sc73 : FnScope ["one", "other"] ["one", "other"] (defScope s73) := ⟨rfl, rfl, rfl, by decide +kernel, rfl, by decide +kernel, by decide +kernel⟩
theorem sc75 : FnScope ["one"] ["one"] (defScope s75) := ⟨rfl, rfl, rfl, by decide +kernel, rfl, by decide +kernel, by decide +kernel⟩
theorem sc68 : FnScope ["value"] ["value"] (defScope s68) := ⟨rfl, rfl, rfl, by decide +kernel, rfl, by decide +kernel, by decide +kernel⟩
theorem sc107 : FnScope ["value"] ["value"] (defScope s107) := ⟨rfl, rfl, rfl, by decide +kernel, rfl, by decide +kernel, by decide +kernel⟩
theorem sc65 : FnScope ["one", "other"] ["one", "other"] (defScope s65) := ⟨rfl, rfl, rfl, by decide +kernel, rfl, by decide +kernel, by decide +kernel⟩
theorem sc64 : FnScope ["value"] ["value"] (defScope s64) := ⟨rfl, rfl, rfl, by decide +kernel, rfl, by decide +kernel, by decide +kernel⟩
theorem sc106 : FnScope ["value", "one", "other", "sign"] ["value"] (defScope s106) := ⟨rfl, rfl, rfl, by decide +kernel, rfl, by decide +kernel, by decide +kernel⟩
theorem f0 (F : Fx fa fb ts gs w K mg) : FunD K "law" "law" (defArgs s0) (defBody s0) (defScope s0) [] [] (ga K "law") (fdOf K (ga K "law")) := F.fn_ 0 (d := ⟨(fun K => ga K "law"), "law", "law", defArgs s0, defBody s0, defScope s0⟩) rfl
theorem f184 (F : Fx fa fb ts gs w K mg) : FunD K "_law_rhythm" "_law_rhythm" (defArgs s184) (defBody s184) (defScope s184) [] [] (ga K "_law_rhythm") (fdOf K (ga K "_law_rhythm")) := F.fn_ 1 (d := ⟨(fun K => ga K "_law_rhythm"), "_law_rhythm", "_law_rhythm", defArgs s184, defBody s184, defScope s184⟩) rfl
theorem f162 (F : Fx fa fb ts gs w K mg) : FunD K "_law_sum" "_law_sum" (defArgs s162) (defBody s162) (defScope s162) [] [] (ga K "_law_sum") (fdOf K (ga K "_law_sum")) := F.fn_ 2 (d := ⟨(fun K => ga K "_law_sum"), "_law_sum", "_law_sum", defArgs s162, defBody s162, defScope s162⟩) rfl
theorem f163 (F : Fx fa fb ts gs w K mg) : FunD K "_law_times" "_law_times" (defArgs s163) (defBody s163) (defScope s163) [] [] (ga K "_law_times") (fdOf K (ga K "_law_times")) := F.fn_ 3 (d := ⟨(fun K => ga K "_law_times"), "_law_times", "_law_times", defArgs s163, defBody s163, defScope s163⟩) rfl
theorem f183 (F : Fx fa fb ts gs w K mg) : FunD K "_law_taken" "_law_taken" (defArgs s183) (defBody s183) (defScope s183) [] [] (ga K "_law_taken") (fdOf K (ga K "_law_taken")) := F.fn_ 4 (d := ⟨(fun K => ga K "_law_taken"), "_law_taken", "_law_taken", defArgs s183, defBody s183, defScope s183⟩) rfl
theorem f161 (F : Fx fa fb ts gs w K mg) : FunD K "_law_frac" "_law_frac" (defArgs s161) (defBody s161) (defScope s161) [] [] (ga K "_law_frac") (fdOf K (ga K "_law_frac")) := F.fn_ 5 (d := ⟨(fun K => ga K "_law_frac"), "_law_frac", "_law_frac", defArgs s161, defBody s161, defScope s161⟩) rfl
theorem f186 (F : Fx fa fb ts gs w K mg) : FunD K "_law_between" "_law_between" (defArgs s186) (defBody s186) (defScope s186) [] [] (ga K "_law_between") (fdOf K (ga K "_law_between")) := F.fn_ 6 (d := ⟨(fun K => ga K "_law_between"), "_law_between", "_law_between", defArgs s186, defBody s186, defScope s186⟩) rfl
theorem f185 (F : Fx fa fb ts gs w K mg) : FunD K "_law_least" "_law_least" (defArgs s185) (defBody s185) (defScope s185) [] [] (ga K "_law_least") (fdOf K (ga K "_law_least")) := F.fn_ 7 (d := ⟨(fun K => ga K "_law_least"), "_law_least", "_law_least", defArgs s185, defBody s185, defScope s185⟩) rfl
theorem f164 (F : Fx fa fb ts gs w K mg) : FunD K "_law_less" "_law_less" (defArgs s164) (defBody s164) (defScope s164) [] [] (ga K "_law_less") (fdOf K (ga K "_law_less")) := F.fn_ 8 (d := ⟨(fun K => ga K "_law_less"), "_law_less", "_law_less", defArgs s164, defBody s164, defScope s164⟩) rfl
theorem f1 (F : Fx fa fb ts gs w K mg) : FunD K "_law_may" "_law_may" (defArgs s1) (defBody s1) (defScope s1) [] [] (ga K "_law_may") (fdOf K (ga K "_law_may")) := F.fn_ 9 (d := ⟨(fun K => ga K "_law_may"), "_law_may", "_law_may", defArgs s1, defBody s1, defScope s1⟩) rfl
theorem f138 (F : Fx fa fb ts gs w K mg) : FunD K "rounds" "rounds" (defArgs s138) (defBody s138) (defScope s138) [] [] (ga K "rounds") (fdOf K (ga K "rounds")) := F.fn_ 10 (d := ⟨(fun K => ga K "rounds"), "rounds", "rounds", defArgs s138, defBody s138, defScope s138⟩) rfl
theorem f140 (F : Fx fa fb ts gs w K mg) : FunD K "expected" "expected" (defArgs s140) (defBody s140) (defScope s140) [] [] (ga K "expected") (fdOf K (ga K "expected")) := F.fn_ 11 (d := ⟨(fun K => ga K "expected"), "expected", "expected", defArgs s140, defBody s140, defScope s140⟩) rfl
theorem f2 (F : Fx fa fb ts gs w K mg) : FunD K "_law_next" "_law_next" (defArgs s2) (defBody s2) (defScope s2) [] [] (ga K "_law_next") (fdOf K (ga K "_law_next")) := F.fn_ 12 (d := ⟨(fun K => ga K "_law_next"), "_law_next", "_law_next", defArgs s2, defBody s2, defScope s2⟩) rfl
theorem f3 (F : Fx fa fb ts gs w K mg) : FunD K "_law_refused" "_law_refused" (defArgs s3) (defBody s3) (defScope s3) [] [] (ga K "_law_refused") (fdOf K (ga K "_law_refused")) := F.fn_ 13 (d := ⟨(fun K => ga K "_law_refused"), "_law_refused", "_law_refused", defArgs s3, defBody s3, defScope s3⟩) rfl
theorem f136 (F : Fx fa fb ts gs w K mg) : FunD K "check_heard" "check_heard" (defArgs s136) (defBody s136) (defScope s136) [] [] (ga K "check_heard") (fdOf K (ga K "check_heard")) := F.fn_ 14 (d := ⟨(fun K => ga K "check_heard"), "check_heard", "check_heard", defArgs s136, defBody s136, defScope s136⟩) rfl
theorem f74 (F : Fx fa fb ts gs w K mg) : FunD K "floor" "floor" (defArgs s74) (defBody s74) (defScope s74) [] [] (ga K "floor") (fdOf K (ga K "floor")) := F.fn_ 15 (d := ⟨(fun K => ga K "floor"), "floor", "floor", defArgs s74, defBody s74, defScope s74⟩) rfl
theorem f72 (F : Fx fa fb ts gs w K mg) : FunD K "over" "over" (defArgs s72) (defBody s72) (defScope s72) [] [] (ga K "over") (fdOf K (ga K "over")) := F.fn_ 16 (d := ⟨(fun K => ga K "over"), "over", "over", defArgs s72, defBody s72, defScope s72⟩) rfl
theorem f71 (F : Fx fa fb ts gs w K mg) : FunD K "product" "product" (defArgs s71) (defBody s71) (defScope s71) [] [] (ga K "product") (fdOf K (ga K "product")) := F.fn_ 17 (d := ⟨(fun K => ga K "product"), "product", "product", defArgs s71, defBody s71, defScope s71⟩) rfl
theorem f137 (F : Fx fa fb ts gs w K mg) : FunD K "may_come_round" "may_come_round" (defArgs s137) (defBody s137) (defScope s137) [] [] (ga K "may_come_round") (fdOf K (ga K "may_come_round")) := F.fn_ 18 (d := ⟨(fun K => ga K "may_come_round"), "may_come_round", "may_come_round", defArgs s137, defBody s137, defScope s137⟩) rfl
theorem f139 (F : Fx fa fb ts gs w K mg) : FunD K "next_beat" "next_beat" (defArgs s139) (defBody s139) (defScope s139) [] [] (ga K "next_beat") (fdOf K (ga K "next_beat")) := F.fn_ 19 (d := ⟨(fun K => ga K "next_beat"), "next_beat", "next_beat", defArgs s139, defBody s139, defScope s139⟩) rfl
theorem f105 (F : Fx fa fb ts gs w K mg) : FunD K "is_time" "is_time" (defArgs s105) (defBody s105) (defScope s105) [] [] (ga K "is_time") (fdOf K (ga K "is_time")) := F.fn_ 20 (d := ⟨(fun K => ga K "is_time"), "is_time", "is_time", defArgs s105, defBody s105, defScope s105⟩) rfl
theorem f108 (F : Fx fa fb ts gs w K mg) : FunD K "are_beats" "are_beats" (defArgs s108) (defBody s108) (defScope s108) [] [] (ga K "are_beats") (fdOf K (ga K "are_beats")) := F.fn_ 21 (d := ⟨(fun K => ga K "are_beats"), "are_beats", "are_beats", defArgs s108, defBody s108, defScope s108⟩) rfl
theorem f67 (F : Fx fa fb ts gs w K mg) : FunD K "fraction" "fraction" (defArgs s67) (defBody s67) (defScope s67) [] [] (ga K "fraction") (fdOf K (ga K "fraction")) := F.fn_ 22 (d := ⟨(fun K => ga K "fraction"), "fraction", "fraction", defArgs s67, defBody s67, defScope s67⟩) rfl
theorem f69 (F : Fx fa fb ts gs w K mg) : FunD K "added" "added" (defArgs s69) (defBody s69) (defScope s69) [] [] (ga K "added") (fdOf K (ga K "added")) := F.fn_ 23 (d := ⟨(fun K => ga K "added"), "added", "added", defArgs s69, defBody s69, defScope s69⟩) rfl
theorem f70 (F : Fx fa fb ts gs w K mg) : FunD K "less" "less" (defArgs s70) (defBody s70) (defScope s70) [] [] (ga K "less") (fdOf K (ga K "less")) := F.fn_ 24 (d := ⟨(fun K => ga K "less"), "less", "less", defArgs s70, defBody s70, defScope s70⟩) rfl
theorem f73 (F : Fx fa fb ts gs w K mg) : FunD K "is_less" "is_less" (defArgs s73) (defBody s73) (defScope s73) [] [] (ga K "is_less") (fdOf K (ga K "is_less")) := F.fn_ 25 (d := ⟨(fun K => ga K "is_less"), "is_less", "is_less", defArgs s73, defBody s73, defScope s73⟩) rfl
theorem f75 (F : Fx fa fb ts gs w K mg) : FunD K "ceiling" "ceiling" (defArgs s75) (defBody s75) (defScope s75) [] [] (ga K "ceiling") (fdOf K (ga K "ceiling")) := F.fn_ 26 (d := ⟨(fun K => ga K "ceiling"), "ceiling", "ceiling", defArgs s75, defBody s75, defScope s75⟩) rfl
theorem f68 (F : Fx fa fb ts gs w K mg) : FunD K "is_fraction" "is_fraction" (defArgs s68) (defBody s68) (defScope s68) [] [] (ga K "is_fraction") (fdOf K (ga K "is_fraction")) := F.fn_ 27 (d := ⟨(fun K => ga K "is_fraction"), "is_fraction", "is_fraction", defArgs s68, defBody s68, defScope s68⟩) rfl
theorem f107 (F : Fx fa fb ts gs w K mg) : FunD K "is_beat" "is_beat" (defArgs s107) (defBody s107) (defScope s107) [] [] (ga K "is_beat") (fdOf K (ga K "is_beat")) := F.fn_ 28 (d := ⟨(fun K => ga K "is_beat"), "is_beat", "is_beat", defArgs s107, defBody s107, defScope s107⟩) rfl
theorem f65 (F : Fx fa fb ts gs w K mg) : FunD K "common" "common" (defArgs s65) (defBody s65) (defScope s65) [] [] (ga K "common") (fdOf K (ga K "common")) := F.fn_ 29 (d := ⟨(fun K => ga K "common"), "common", "common", defArgs s65, defBody s65, defScope s65⟩) rfl
theorem f64 (F : Fx fa fb ts gs w K mg) : FunD K "is_whole" "is_whole" (defArgs s64) (defBody s64) (defScope s64) [] [] (ga K "is_whole") (fdOf K (ga K "is_whole")) := F.fn_ 30 (d := ⟨(fun K => ga K "is_whole"), "is_whole", "is_whole", defArgs s64, defBody s64, defScope s64⟩) rfl
theorem f106 (F : Fx fa fb ts gs w K mg) : FunD K "are_letters" "are_letters" (defArgs s106) (defBody s106) (defScope s106) [] [] (ga K "are_letters") (fdOf K (ga K "are_letters")) := F.fn_ 31 (d := ⟨(fun K => ga K "are_letters"), "are_letters", "are_letters", defArgs s106, defBody s106, defScope s106⟩) rfl
theorem f_x_InvalidHeard (F : Fx fa fb ts gs w K mg) : FunD K "__init__" "InvalidHeard.__init__" (defArgs s_x_InvalidHeard) (defBody s_x_InvalidHeard) (defScope s_x_InvalidHeard) [] [] (ma K (ga K "InvalidHeard") "__init__") (fdOf K (ma K (ga K "InvalidHeard") "__init__")) := F.fn_ 32 (d := ⟨(fun K => ma K (ga K "InvalidHeard") "__init__"), "__init__", "InvalidHeard.__init__", defArgs s_x_InvalidHeard, defBody s_x_InvalidHeard, defScope s_x_InvalidHeard⟩) rfl
theorem bi184 (F : Fx fa fb ts gs w K mg) : Binds K (fdOf K (ga K "_law_rhythm")) ["_law_row"] [] := (f184 F).bindsN fun _ _ _ _ _ _ us hl => match us, hl with | [_], _ => by kernel_rfl
theorem bi162 (F : Fx fa fb ts gs w K mg) : Binds K (fdOf K (ga K "_law_sum")) ["_law_one", "_law_mate"] [] := (f162 F).bindsN fun _ _ _ _ _ _ us hl => match us, hl with | [_, _], _ => by kernel_rfl
theorem bi163 (F : Fx fa fb ts gs w K mg) : Binds K (fdOf K (ga K "_law_times")) ["_law_one", "_law_mate"] [] := (f163 F).bindsN fun _ _ _ _ _ _ us hl => match us, hl with | [_, _], _ => by kernel_rfl
theorem bi183 (F : Fx fa fb ts gs w K mg) : Binds K (fdOf K (ga K "_law_taken")) ["_law_row", "_law_many"] [] := (f183 F).bindsN fun _ _ _ _ _ _ us hl => match us, hl with | [_, _], _ => by kernel_rfl
theorem bi161 (F : Fx fa fb ts gs w K mg) : Binds K (fdOf K (ga K "_law_frac")) ["_law_number", "_law_parts"] [] := (f161 F).bindsN fun _ _ _ _ _ _ us hl => match us, hl with | [_, _], _ => by kernel_rfl
theorem bi186 (F : Fx fa fb ts gs w K mg) : Binds K (fdOf K (ga K "_law_between")) ["_law_mech", "_law_start", "_law_end"] [] := (f186 F).bindsN fun _ _ _ _ _ _ us hl => match us, hl with | [_, _, _], _ => by kernel_rfl
theorem bi185 (F : Fx fa fb ts gs w K mg) : Binds K (fdOf K (ga K "_law_least")) ["_law_period", "_law_beats_here"] [] := (f185 F).bindsN fun _ _ _ _ _ _ us hl => match us, hl with | [_, _], _ => by kernel_rfl
theorem bi164 (F : Fx fa fb ts gs w K mg) : Binds K (fdOf K (ga K "_law_less")) ["_law_one", "_law_mate"] [] := (f164 F).bindsN fun _ _ _ _ _ _ us hl => match us, hl with | [_, _], _ => by kernel_rfl
theorem bi1 (F : Fx fa fb ts gs w K mg) : Binds K (fdOf K (ga K "_law_may")) ["_law_beats_here", "_law_until", "_law_period"] [] := (f1 F).bindsN fun _ _ _ _ _ _ us hl => match us, hl with | [_, _, _], _ => by kernel_rfl
theorem bi138 (F : Fx fa fb ts gs w K mg) : Binds K (fdOf K (ga K "rounds")) ["beats", "until", "grid"] [] := (f138 F).bindsN fun _ _ _ _ _ _ us hl => match us, hl with | [_, _, _], _ => by kernel_rfl
theorem bi140 (F : Fx fa fb ts gs w K mg) : Binds K (fdOf K (ga K "expected")) ["beats", "until", "grid"] [] := (f140 F).bindsN fun _ _ _ _ _ _ us hl => match us, hl with | [_, _, _], _ => by kernel_rfl
theorem bi2 (F : Fx fa fb ts gs w K mg) : Binds K (fdOf K (ga K "_law_next")) ["_law_beats_here", "_law_until", "_law_period"] [] := (f2 F).bindsN fun _ _ _ _ _ _ us hl => match us, hl with | [_, _, _], _ => by kernel_rfl
theorem bi3 (F : Fx fa fb ts gs w K mg) : Binds K (fdOf K (ga K "_law_refused")) ["_law_beats_here", "_law_until", "_law_grid", "_law_kind"] [] := (f3 F).bindsN fun _ _ _ _ _ _ us hl => match us, hl with | [_, _, _, _], _ => by kernel_rfl
theorem bi136 (F : Fx fa fb ts gs w K mg) : Binds K (fdOf K (ga K "check_heard")) ["beats", "until", "grid"] [] := (f136 F).bindsN fun _ _ _ _ _ _ us hl => match us, hl with | [_, _, _], _ => by kernel_rfl
theorem bi74 (F : Fx fa fb ts gs w K mg) : Binds K (fdOf K (ga K "floor")) ["one"] [] := (f74 F).bindsN fun _ _ _ _ _ _ us hl => match us, hl with | [_], _ => by kernel_rfl
theorem bi72 (F : Fx fa fb ts gs w K mg) : Binds K (fdOf K (ga K "over")) ["one", "other"] [] := (f72 F).bindsN fun _ _ _ _ _ _ us hl => match us, hl with | [_, _], _ => by kernel_rfl
theorem bi71 (F : Fx fa fb ts gs w K mg) : Binds K (fdOf K (ga K "product")) ["one", "other"] [] := (f71 F).bindsN fun _ _ _ _ _ _ us hl => match us, hl with | [_, _], _ => by kernel_rfl
theorem bi137 (F : Fx fa fb ts gs w K mg) : Binds K (fdOf K (ga K "may_come_round")) ["beats", "known", "until", "period"] [] := (f137 F).bindsN fun _ _ _ _ _ _ us hl => match us, hl with | [_, _, _, _], _ => by kernel_rfl
theorem bi139 (F : Fx fa fb ts gs w K mg) : Binds K (fdOf K (ga K "next_beat")) ["beats", "until", "period"] [] := (f139 F).bindsN fun _ _ _ _ _ _ us hl => match us, hl with | [_, _, _], _ => by kernel_rfl
theorem bi105 (F : Fx fa fb ts gs w K mg) : Binds K (fdOf K (ga K "is_time")) ["value"] [] := (f105 F).bindsN fun _ _ _ _ _ _ us hl => match us, hl with | [_], _ => by kernel_rfl
theorem bi108 (F : Fx fa fb ts gs w K mg) : Binds K (fdOf K (ga K "are_beats")) ["value", "end"] [] := (f108 F).bindsN fun _ _ _ _ _ _ us hl => match us, hl with | [_, _], _ => by kernel_rfl
theorem bi67 (F : Fx fa fb ts gs w K mg) : Binds K (fdOf K (ga K "fraction")) ["number", "parts"] [] := (f67 F).bindsN fun _ _ _ _ _ _ us hl => match us, hl with | [_, _], _ => by kernel_rfl
theorem bi69 (F : Fx fa fb ts gs w K mg) : Binds K (fdOf K (ga K "added")) ["one", "other"] [] := (f69 F).bindsN fun _ _ _ _ _ _ us hl => match us, hl with | [_, _], _ => by kernel_rfl
theorem bi70 (F : Fx fa fb ts gs w K mg) : Binds K (fdOf K (ga K "less")) ["one", "other"] [] := (f70 F).bindsN fun _ _ _ _ _ _ us hl => match us, hl with | [_, _], _ => by kernel_rfl
theorem bi73 (F : Fx fa fb ts gs w K mg) : Binds K (fdOf K (ga K "is_less")) ["one", "other"] [] := (f73 F).bindsN fun _ _ _ _ _ _ us hl => match us, hl with | [_, _], _ => by kernel_rfl
theorem bi75 (F : Fx fa fb ts gs w K mg) : Binds K (fdOf K (ga K "ceiling")) ["one"] [] := (f75 F).bindsN fun _ _ _ _ _ _ us hl => match us, hl with | [_], _ => by kernel_rfl
theorem bi68 (F : Fx fa fb ts gs w K mg) : Binds K (fdOf K (ga K "is_fraction")) ["value"] [] := (f68 F).bindsN fun _ _ _ _ _ _ us hl => match us, hl with | [_], _ => by kernel_rfl
theorem bi107 (F : Fx fa fb ts gs w K mg) : Binds K (fdOf K (ga K "is_beat")) ["value"] [] := (f107 F).bindsN fun _ _ _ _ _ _ us hl => match us, hl with | [_], _ => by kernel_rfl
theorem bi65 (F : Fx fa fb ts gs w K mg) : Binds K (fdOf K (ga K "common")) ["one", "other"] [] := (f65 F).bindsN fun _ _ _ _ _ _ us hl => match us, hl with | [_, _], _ => by kernel_rfl
theorem bi64 (F : Fx fa fb ts gs w K mg) : Binds K (fdOf K (ga K "is_whole")) ["value"] [] := (f64 F).bindsN fun _ _ _ _ _ _ us hl => match us, hl with | [_], _ => by kernel_rfl
theorem bi106 (F : Fx fa fb ts gs w K mg) : Binds K (fdOf K (ga K "are_letters")) ["value"] [] := (f106 F).bindsN fun _ _ _ _ _ _ us hl => match us, hl with | [_], _ => by kernel_rfl
theorem xs_InvalidHeard : FnScope ["self"] ["self"] (defScope s_x_InvalidHeard) := ⟨rfl, rfl, rfl, by decide +kernel, rfl, by decide +kernel, by decide +kernel⟩
theorem xk_InvalidHeard (F : Fx fa fb ts gs w K mg) {j : Nat} : FnOk PR w K mg base (L2.CX PR w) (j + 1) (ma K (ga K "InvalidHeard") "__init__") (fdOf K (ma K (ga K "InvalidHeard") "__init__")) ["self"] (spX0 K (ga K "InvalidHeard")) := ok_exc0 (f_x_InvalidHeard F) xs_InvalidHeard (fun _ _ _ _ _ _ => pe_beinit rfl (F.glo 46) (bex_ok (F.more 2)).ga (bex_ok (F.more 2)).rd (bex_ok (F.more 2)).ini (pa_cons (pe_var (i := 0) rfl (.inl rfl) (by decide) (by decide)) (pa_cons pe_str pa_nil))) (fun _ _ => rfl)
theorem catch_InvalidHeard (F : Fx fa fb ts gs w K mg) : Catch (cm K) K (.ref (ga K "InvalidHeard")) catch_InvalidHeard_t := fun cl k C h1 h2 => by
  unfold catch_InvalidHeard_t at h1
  split at h1
  · cases h1
    cases (show some (ga K "InvalidHeard") = some C from h2)
    exact F.exm 47
  · cases h1
theorem xb_InvalidHeard (F : Fx fa fb ts gs w K mg) : Binds K (fdOf K (ma K (ga K "InvalidHeard") "__init__")) ["self"] [] := (f_x_InvalidHeard F).bindsN fun _ _ _ _ _ _ us hl => match us, hl with | [_], _ => by kernel_rfl
structure Hy (w : World) (K : PySem.W.Frag) (mg : Str → Option Value) (base : Heap) (k : Nat) : Prop where
  k0 : FnOk PR w K mg base (L2.CX PR w) (3 * k) (ga K "law") (fdOf K (ga K "law")) ["_law_script"] (spF ⟨PR, w, K, cm K⟩ (runFn T k 0))
  k184 : FnOk PR w K mg base (L2.CX PR w) (3 * k) (ga K "_law_rhythm") (fdOf K (ga K "_law_rhythm")) ["_law_row"] (spF ⟨PR, w, K, cm K⟩ (runFn T k 184))
  k162 : FnOk PR w K mg base (L2.CX PR w) (3 * k) (ga K "_law_sum") (fdOf K (ga K "_law_sum")) ["_law_one", "_law_mate"] (spF ⟨PR, w, K, cm K⟩ (runFn T k 162))
  k163 : FnOk PR w K mg base (L2.CX PR w) (3 * k) (ga K "_law_times") (fdOf K (ga K "_law_times")) ["_law_one", "_law_mate"] (spF ⟨PR, w, K, cm K⟩ (runFn T k 163))
  k183 : FnOk PR w K mg base (L2.CX PR w) (3 * k) (ga K "_law_taken") (fdOf K (ga K "_law_taken")) ["_law_row", "_law_many"] (spF ⟨PR, w, K, cm K⟩ (runFn T k 183))
  k161 : FnOk PR w K mg base (L2.CX PR w) (3 * k) (ga K "_law_frac") (fdOf K (ga K "_law_frac")) ["_law_number", "_law_parts"] (spF ⟨PR, w, K, cm K⟩ (runFn T k 161))
  k186 : FnOk PR w K mg base (L2.CX PR w) (3 * k) (ga K "_law_between") (fdOf K (ga K "_law_between")) ["_law_mech", "_law_start", "_law_end"] (spF ⟨PR, w, K, cm K⟩ (runFn T k 186))
  k185 : FnOk PR w K mg base (L2.CX PR w) (3 * k) (ga K "_law_least") (fdOf K (ga K "_law_least")) ["_law_period", "_law_beats_here"] (spF ⟨PR, w, K, cm K⟩ (runFn T k 185))
  k164 : FnOk PR w K mg base (L2.CX PR w) (3 * k) (ga K "_law_less") (fdOf K (ga K "_law_less")) ["_law_one", "_law_mate"] (spF ⟨PR, w, K, cm K⟩ (runFn T k 164))
  k1 : FnOk PR w K mg base (L2.CX PR w) (3 * k) (ga K "_law_may") (fdOf K (ga K "_law_may")) ["_law_beats_here", "_law_until", "_law_period"] (spF ⟨PR, w, K, cm K⟩ (runFn T k 1))
  k138 : FnOk PR w K mg base (L2.CX PR w) (3 * k) (ga K "rounds") (fdOf K (ga K "rounds")) ["beats", "until", "grid"] (spF ⟨PR, w, K, cm K⟩ (runFn T k 138))
  k140 : FnOk PR w K mg base (L2.CX PR w) (3 * k) (ga K "expected") (fdOf K (ga K "expected")) ["beats", "until", "grid"] (spF ⟨PR, w, K, cm K⟩ (runFn T k 140))
  k2 : FnOk PR w K mg base (L2.CX PR w) (3 * k) (ga K "_law_next") (fdOf K (ga K "_law_next")) ["_law_beats_here", "_law_until", "_law_period"] (spF ⟨PR, w, K, cm K⟩ (runFn T k 2))
  k3 : FnOk PR w K mg base (L2.CX PR w) (3 * k) (ga K "_law_refused") (fdOf K (ga K "_law_refused")) ["_law_beats_here", "_law_until", "_law_grid", "_law_kind"] (spF ⟨PR, w, K, cm K⟩ (runFn T k 3))
  k136 : FnOk PR w K mg base (L2.CX PR w) (3 * k) (ga K "check_heard") (fdOf K (ga K "check_heard")) ["beats", "until", "grid"] (spF ⟨PR, w, K, cm K⟩ (runFn T k 136))
  k74 : FnOk PR w K mg base (L2.CX PR w) (3 * k) (ga K "floor") (fdOf K (ga K "floor")) ["one"] (spF ⟨PR, w, K, cm K⟩ (runFn T k 74))
  k72 : FnOk PR w K mg base (L2.CX PR w) (3 * k) (ga K "over") (fdOf K (ga K "over")) ["one", "other"] (spF ⟨PR, w, K, cm K⟩ (runFn T k 72))
  k71 : FnOk PR w K mg base (L2.CX PR w) (3 * k) (ga K "product") (fdOf K (ga K "product")) ["one", "other"] (spF ⟨PR, w, K, cm K⟩ (runFn T k 71))
  k137 : FnOk PR w K mg base (L2.CX PR w) (3 * k) (ga K "may_come_round") (fdOf K (ga K "may_come_round")) ["beats", "known", "until", "period"] (spF ⟨PR, w, K, cm K⟩ (runFn T k 137))
  k139 : FnOk PR w K mg base (L2.CX PR w) (3 * k) (ga K "next_beat") (fdOf K (ga K "next_beat")) ["beats", "until", "period"] (spF ⟨PR, w, K, cm K⟩ (runFn T k 139))
  k105 : FnOk PR w K mg base (L2.CX PR w) (3 * k) (ga K "is_time") (fdOf K (ga K "is_time")) ["value"] (spF ⟨PR, w, K, cm K⟩ (runFn T k 105))
  k108 : FnOk PR w K mg base (L2.CX PR w) (3 * k) (ga K "are_beats") (fdOf K (ga K "are_beats")) ["value", "end"] (spF ⟨PR, w, K, cm K⟩ (runFn T k 108))
  k67 : FnOk PR w K mg base (L2.CX PR w) (3 * k) (ga K "fraction") (fdOf K (ga K "fraction")) ["number", "parts"] (spF ⟨PR, w, K, cm K⟩ (runFn T k 67))
  k69 : FnOk PR w K mg base (L2.CX PR w) (3 * k) (ga K "added") (fdOf K (ga K "added")) ["one", "other"] (spF ⟨PR, w, K, cm K⟩ (runFn T k 69))
  k70 : FnOk PR w K mg base (L2.CX PR w) (3 * k) (ga K "less") (fdOf K (ga K "less")) ["one", "other"] (spF ⟨PR, w, K, cm K⟩ (runFn T k 70))
  k73 : FnOk PR w K mg base (L2.CX PR w) (3 * k) (ga K "is_less") (fdOf K (ga K "is_less")) ["one", "other"] (spF ⟨PR, w, K, cm K⟩ (runFn T k 73))
  k75 : FnOk PR w K mg base (L2.CX PR w) (3 * k) (ga K "ceiling") (fdOf K (ga K "ceiling")) ["one"] (spF ⟨PR, w, K, cm K⟩ (runFn T k 75))
  k68 : FnOk PR w K mg base (L2.CX PR w) (3 * k) (ga K "is_fraction") (fdOf K (ga K "is_fraction")) ["value"] (spF ⟨PR, w, K, cm K⟩ (runFn T k 68))
  k107 : FnOk PR w K mg base (L2.CX PR w) (3 * k) (ga K "is_beat") (fdOf K (ga K "is_beat")) ["value"] (spF ⟨PR, w, K, cm K⟩ (runFn T k 107))
  k65 : FnOk PR w K mg base (L2.CX PR w) (3 * k) (ga K "common") (fdOf K (ga K "common")) ["one", "other"] (spF ⟨PR, w, K, cm K⟩ (runFn T k 65))
  k64 : FnOk PR w K mg base (L2.CX PR w) (3 * k) (ga K "is_whole") (fdOf K (ga K "is_whole")) ["value"] (spF ⟨PR, w, K, cm K⟩ (runFn T k 64))
  k106 : FnOk PR w K mg base (L2.CX PR w) (3 * k) (ga K "are_letters") (fdOf K (ga K "are_letters")) ["value"] (spF ⟨PR, w, K, cm K⟩ (runFn T k 106))
set_option linter.unusedVariables false in
theorem o0 (F : Fx fa fb ts gs w K mg) {k : Nat} (h : Hy w K mg base k) : FnOk PR w K mg base (L2.CX PR w) (3 * (k + 1)) (ga K "law") (fdOf K (ga K "law")) ["_law_script"] (spF ⟨PR, w, K, cm K⟩ (runFn T (k + 1) 0)) :=
  ok_def (j := 3 * k + 2) (fn := fn0) (f0 F) sc0 rfl rfl rfl rfl fun cdv A outer s H E hr => by
    have tk := takes_of (X := cxOf (L2.CX PR w) PR w K mg base ["_law_script", "_law_row", "_law_turn", "_law_odd", "_law_until", "_law_some", "_law_grid", "_law_told", "_law_one", "_law_bad", "_law_kind", "_law_period", "_law_beats_here", "_law_due", "_law_k"] "law" (defScope s0) (ga K "law") cdv A outer s H E) rfl rfl rfl rfl
    have hp := passes_of (X := cxOf (L2.CX PR w) PR w K mg base ["_law_script", "_law_row", "_law_turn", "_law_odd", "_law_until", "_law_some", "_law_grid", "_law_told", "_law_one", "_law_bad", "_law_kind", "_law_period", "_law_beats_here", "_law_due", "_law_k"] "law" (defScope s0) (ga K "law") cdv A outer s H E) rfl
    have hN := sc0.nd
    show CSs _ _ _ (b0 (runFn T k)) _
    delta b0
    exact css_cons (cs_set 1 (cf_val (ce_newL (cf_lst (ca_cons (ce_var 0) (ca_cons (ce_int) (ca_cons (ce_int) (ca_cons (ce_int) (ca_nil)))))))) hN) (css_cons (cs_for hp rfl (ci_rng1 (F.free 0) (ce_int)) (cg_of (cgp_name 2 hN)) (css_cons (cs_asg (ce_frz (cf_call h.k184 (hr.mono (by omega)) (F.glo 1) (f184 F).kp (bi184 F) tk (ca_cons (ce_var 1) (ca_nil)))) (cg_of (cgp_tup rfl (cgps_cons (cgp_name 11 hN) (cgps_cons (cgp_name 12 hN) (cgps_nil)))))) (css_cons (cs_set 4 (cf_val (ce_frz (cf_call h.k162 (hr.mono (by omega)) (F.glo 5) (f162 F).kp (bi162 F) tk (ca_cons (ce_frz (cf_call h.k163 (hr.mono (by omega)) (F.glo 3) (f163 F).kp (bi163 F) tk (ca_cons (ce_var 11) (ca_cons (ce_tup (ca_cons (ce_op op_addAll rd_add (ce_int) (ce_frz (cf_call h.k183 (hr.mono (by omega)) (F.glo 2) (f183 F).kp (bi183 F) tk (ca_cons (ce_var 1) (ca_cons (ce_int) (ca_nil)))))) (ca_cons (ce_int) (ca_nil)))) (ca_nil))))) (ca_cons (ce_frz (cf_call h.k161 (hr.mono (by omega)) (F.glo 4) (f161 F).kp (bi161 F) tk (ca_cons (ce_op op_addAll rd_add (ce_int) (ce_frz (cf_call h.k183 (hr.mono (by omega)) (F.glo 2) (f183 F).kp (bi183 F) tk (ca_cons (ce_var 1) (ca_cons (ce_int) (ca_nil)))))) (ca_cons (ce_int) (ca_nil))))) (ca_nil)))))) hN) (css_cons (cs_set 5 (cf_call h.k186 (hr.mono (by omega)) (F.glo 7) (f186 F).kp (bi186 F) tk (ca_cons (ce_frz (cf_call h.k185 (hr.mono (by omega)) (F.glo 6) (f185 F).kp (bi185 F) tk (ca_cons (ce_var 11) (ca_cons (ce_var 12) (ca_nil))))) (ca_cons (ce_tup (ca_cons (ce_int) (ca_cons (ce_int) (ca_nil)))) (ca_cons (ce_var 4) (ca_nil))))) hN) (css_cons (cs_if (ct_w (cw_and (ct_cmp op_gt rd_gt (ce_lenOwn 5 (F.free 8)) (ce_int)) (cw_and1 (ct_cmp (op_eqD hr.units) rd_eq (ce_frz (cf_call h.k183 (hr.mono (by omega)) (F.glo 2) (f183 F).kp (bi183 F) tk (ca_cons (ce_var 1) (ca_cons (ce_int) (ca_nil))))) (ce_int))))) (css_one (cs_pop 5 (ce_frz (cf_call h.k183 (hr.mono (by omega)) (F.glo 2) (f183 F).kp (bi183 F) tk (ca_cons (ce_var 1) (ca_cons (ce_lenOwn 5 (F.free 8)) (ca_nil))))))) (css_nil)) (css_cons (cs_set 6 (cf_val (ce_frz (cf_call h.k161 (hr.mono (by omega)) (F.glo 4) (f161 F).kp (bi161 F) tk (ca_cons (ce_op op_addAll rd_add (ce_int) (ce_frz (cf_call h.k183 (hr.mono (by omega)) (F.glo 2) (f183 F).kp (bi183 F) tk (ca_cons (ce_var 1) (ca_cons (ce_int) (ca_nil)))))) (ca_cons (ce_op op_addAll rd_add (ce_int) (ce_frz (cf_call h.k183 (hr.mono (by omega)) (F.glo 2) (f183 F).kp (bi183 F) tk (ca_cons (ce_var 1) (ca_cons (ce_int) (ca_nil)))))) (ca_nil)))))) hN) (css_cons ((by first | exact cs_par 13 14 rfl hN (cf_lst (ca_nil)) (cf_val (ce_int)) | exact cs_parT 13 14 rfl hN (cf_lst (ca_nil)) (cf_val (ce_int)))) (css_frz 5 (css_cons (cs_while hp (ct_not (ct_val (ce_frz (cf_call h.k164 (hr.mono (by omega)) (F.glo 9) (f164 F).kp (bi164 F) tk (ca_cons (ce_var 4) (ca_cons (ce_frz (cf_call h.k163 (hr.mono (by omega)) (F.glo 3) (f163 F).kp (bi163 F) tk (ca_cons (ce_var 6) (ca_cons (ce_tup (ca_cons (ce_var 14) (ca_cons (ce_int) (ca_nil)))) (ca_nil))))) (ca_nil))))))) (css_cons (cs_if (ct_val (ce_frz (cf_call h.k1 (hr.mono (by omega)) (F.glo 10) (f1 F).kp (bi1 F) tk (ca_cons (ce_var 5) (ca_cons (ce_var 4) (ca_cons (ce_frz (cf_call h.k163 (hr.mono (by omega)) (F.glo 3) (f163 F).kp (bi163 F) tk (ca_cons (ce_var 6) (ca_cons (ce_tup (ca_cons (ce_var 14) (ca_cons (ce_int) (ca_nil)))) (ca_nil))))) (ca_nil))))))) (css_one (cs_app 13 (ce_frz (cf_call h.k163 (hr.mono (by omega)) (F.glo 3) (f163 F).kp (bi163 F) tk (ca_cons (ce_var 6) (ca_cons (ce_tup (ca_cons (ce_var 14) (ca_cons (ce_int) (ca_nil)))) (ca_nil))))))) (css_nil)) (css_one (cs_set 14 (cf_val (ce_op op_addAll rd_add (ce_var 14) (ce_int))) hN)))) (css_frz 13 (css_cons (cs_if (ct_w (cw_or (ct_cmp (op_neD hr.units) rd_ne (ce_frz (cf_call h.k138 (hr.mono (by omega)) (F.glo 11) (f138 F).kp (bi138 F) tk (ca_cons (ce_var 5) (ca_cons (ce_var 4) (ca_cons (ce_var 6) (ca_nil)))))) (ce_var 13)) (cw_or1 (ct_cmp (op_neD hr.units) rd_ne (ce_frz (cf_call h.k138 (hr.mono (by omega)) (F.glo 11) (f138 F).kp (bi138 F) tk (ca_cons (ce_callTy call_tupleN rd_tuple rfl (F.free 12) (by decide +kernel) (ca_cons (ce_var 5) (ca_nil))) (ca_cons (ce_var 4) (ca_cons (ce_var 6) (ca_nil)))))) (ce_var 13))))) (css_one (cs_ret (cf_val (ce_bl)))) (css_nil)) (css_cons (cs_set 7 (cf_val (ce_frz (cf_call h.k140 (hr.mono (by omega)) (F.glo 13) (f140 F).kp (bi140 F) tk (ca_cons (ce_var 5) (ca_cons (ce_var 4) (ca_cons (ce_var 6) (ca_nil))))))) hN) (css_cons (cs_if (ct_cmp (op_neD hr.units) rd_ne (ce_frz (cf_listD rfl (F.free 14) (ce_var 7))) (ce_var 13)) (css_one (cs_ret (cf_val (ce_bl)))) (css_nil)) (css_one (cs_for hp rfl (ci_any (ce_var 13)) (cg_of (cgp_name 8 hN)) (css_one (cs_if (ct_cmp (op_neD hr.units) rd_ne (ce_dix hr (ce_var 7) (ce_var 8)) (ce_frz (cf_call h.k2 (hr.mono (by omega)) (F.glo 15) (f2 F).kp (bi2 F) tk (ca_cons (ce_var 5) (ca_cons (ce_var 4) (ca_cons (ce_var 8) (ca_nil))))))) (css_one (cs_ret (cf_val (ce_bl)))) (css_nil)))))))))))))))))) (css_cons (cs_set 3 (cf_val (ce_frz (cf_lst (ca_cons (ce_non) (ca_cons (ce_str (s := [97, 98])) (ca_cons (ce_dnil) (ca_cons (ce_frz (cf_lst (ca_cons (ce_tup (ca_cons (ce_tup (ca_cons (ce_int) (ca_cons (ce_int) (ca_nil)))) (ca_cons (ce_str (s := [97])) (ca_nil)))) (ca_nil)))) (ca_cons (ce_frz (cf_lst (ca_cons (ce_tup (ca_cons (ce_tup (ca_cons (ce_int) (ca_cons (ce_int) (ca_nil)))) (ca_cons (ce_str (s := [97])) (ca_nil)))) (ca_cons (ce_tup (ca_cons (ce_tup (ca_cons (ce_int) (ca_cons (ce_int) (ca_nil)))) (ca_cons (ce_str (s := [97])) (ca_nil)))) (ca_nil))))) (ca_cons (ce_frz (cf_lst (ca_cons (ce_tup (ca_cons (ce_tup (ca_cons (ce_int) (ca_cons (ce_int) (ca_nil)))) (ca_cons (ce_str (s := [])) (ca_nil)))) (ca_nil)))) (ca_cons (ce_frz (cf_lst (ca_cons (ce_int) (ca_nil)))) (ca_cons (ce_frz (cf_lst (ca_cons (ce_tup (ca_cons (ce_tup (ca_cons (ce_int) (ca_cons (ce_int) (ca_nil)))) (ca_cons (ce_str (s := [97])) (ca_nil)))) (ca_nil)))) (ca_nil)))))))))))) hN) (css_cons (cs_if (ct_not (ct_val (ce_frz (cf_call h.k3 (hr.mono (by omega)) (F.glo 16) (f3 F).kp (bi3 F) tk (ca_cons (ce_ixS (ce_var 3) (ce_frz (cf_call h.k183 (hr.mono (by omega)) (F.glo 2) (f183 F).kp (bi183 F) tk (ca_cons (ce_var 1) (ca_cons (ce_lenS (F.free 8) (ce_var 3)) (ca_nil)))))) (ca_cons (ce_tup (ca_cons (ce_int) (ca_cons (ce_int) (ca_nil)))) (ca_cons (ce_tup (ca_cons (ce_int) (ca_cons (ce_int) (ca_nil)))) (ca_cons (ce_frz (cf_call h.k183 (hr.mono (by omega)) (F.glo 2) (f183 F).kp (bi183 F) tk (ca_cons (ce_var 1) (ca_cons (ce_int) (ca_nil))))) (ca_nil))))))))) (css_one (cs_ret (cf_val (ce_bl)))) (css_nil)) (css_cons (cs_set 3 (cf_val (ce_frz (cf_lst (ca_cons (ce_non) (ca_cons (ce_int) (ca_cons (ce_tup (ca_cons (ce_int) (ca_cons (ce_int) (ca_nil)))) (ca_cons (ce_tup (ca_cons (ce_un un_neg rd_neg (ce_int)) (ca_cons (ce_int) (ca_nil)))) (ca_cons (ce_tup (ca_cons (ce_int) (ca_cons (ce_int) (ca_nil)))) (ca_cons (ce_int) (ca_cons (ce_str (s := [49])) (ca_nil))))))))))) hN) (css_cons ((by first | exact cs_par 9 10 rfl hN (cf_val (ce_ixS (ce_var 3) (ce_frz (cf_call h.k183 (hr.mono (by omega)) (F.glo 2) (f183 F).kp (bi183 F) tk (ca_cons (ce_var 1) (ca_cons (ce_lenS (F.free 8) (ce_var 3)) (ca_nil))))))) (cf_val (ce_frz (cf_call h.k183 (hr.mono (by omega)) (F.glo 2) (f183 F).kp (bi183 F) tk (ca_cons (ce_var 1) (ca_cons (ce_int) (ca_nil)))))) | exact cs_parT 9 10 rfl hN (cf_val (ce_ixS (ce_var 3) (ce_frz (cf_call h.k183 (hr.mono (by omega)) (F.glo 2) (f183 F).kp (bi183 F) tk (ca_cons (ce_var 1) (ca_cons (ce_lenS (F.free 8) (ce_var 3)) (ca_nil))))))) (cf_val (ce_frz (cf_call h.k183 (hr.mono (by omega)) (F.glo 2) (f183 F).kp (bi183 F) tk (ca_cons (ce_var 1) (ca_cons (ce_int) (ca_nil)))))))) (css_one (cs_ret (cf_val (ce_and (ce_frz (cf_call h.k3 (hr.mono (by omega)) (F.glo 16) (f3 F).kp (bi3 F) tk (ca_cons (ce_frz (cf_lst (ca_nil))) (ca_cons (ce_var 9) (ca_cons (ce_tup (ca_cons (ce_int) (ca_cons (ce_int) (ca_nil)))) (ca_cons (ce_var 10) (ca_nil))))))) (ce_one (ce_frz (cf_call h.k3 (hr.mono (by omega)) (F.glo 16) (f3 F).kp (bi3 F) tk (ca_cons (ce_frz (cf_lst (ca_nil))) (ca_cons (ce_tup (ca_cons (ce_int) (ca_cons (ce_int) (ca_nil)))) (ca_cons (ce_var 9) (ca_cons (ce_var 10) (ca_nil)))))))))))))))))
set_option linter.unusedVariables false in
theorem o184 (F : Fx fa fb ts gs w K mg) {k : Nat} (h : Hy w K mg base k) : FnOk PR w K mg base (L2.CX PR w) (3 * (k + 1)) (ga K "_law_rhythm") (fdOf K (ga K "_law_rhythm")) ["_law_row"] (spF ⟨PR, w, K, cm K⟩ (runFn T (k + 1) 184)) :=
  ok_def (j := 3 * k + 2) (fn := fn184) (f184 F) sc184 rfl rfl rfl rfl fun cdv A outer s H E hr => by
    have tk := takes_of (X := cxOf (L2.CX PR w) PR w K mg base ["_law_row", "_law_parts", "_law_many", "_law_beats_here", "_law_k", "_law_letters"] "_law_rhythm" (defScope s184) (ga K "_law_rhythm") cdv A outer s H E) rfl rfl rfl rfl
    have hp := passes_of (X := cxOf (L2.CX PR w) PR w K mg base ["_law_row", "_law_parts", "_law_many", "_law_beats_here", "_law_k", "_law_letters"] "_law_rhythm" (defScope s184) (ga K "_law_rhythm") cdv A outer s H E) rfl
    have hN := sc184.nd
    show CSs _ _ _ (b184 (runFn T k)) _
    delta b184
    exact css_cons (cs_set 1 (cf_val (ce_op op_addAll rd_add (ce_int) (ce_frz (cf_call h.k183 (hr.mono (by omega)) (F.glo 2) (f183 F).kp (bi183 F) tk (ca_cons (ce_var 0) (ca_cons (ce_int) (ca_nil))))))) hN) (css_cons (cs_set 2 (cf_val (ce_op op_addAll rd_add (ce_int) (ce_frz (cf_call h.k183 (hr.mono (by omega)) (F.glo 2) (f183 F).kp (bi183 F) tk (ca_cons (ce_var 0) (ca_cons (ce_int) (ca_nil))))))) hN) (css_cons (cs_set 3 (cf_lst (ca_nil)) hN) (css_cons (cs_for hp rfl (ci_rng1 (F.free 0) (ce_var 2)) (cg_of (cgp_name 4 hN)) (css_one (cs_if (ct_cmp (op_eqD hr.units) rd_eq (ce_frz (cf_call h.k183 (hr.mono (by omega)) (F.glo 2) (f183 F).kp (bi183 F) tk (ca_cons (ce_var 0) (ca_cons (ce_int) (ca_nil))))) (ce_int)) (css_cons (cs_set 5 (cf_val (ce_ixS (ce_frz (cf_lst (ca_cons (ce_str (s := [97])) (ca_cons (ce_str (s := [98])) (ca_cons (ce_str (s := [97, 98])) (ca_cons (ce_str (s := [99])) (ca_cons (ce_str (s := [97])) (ca_cons (ce_str (s := [97, 100])) (ca_nil))))))))) (ce_frz (cf_call h.k183 (hr.mono (by omega)) (F.glo 2) (f183 F).kp (bi183 F) tk (ca_cons (ce_var 0) (ca_cons (ce_int) (ca_nil))))))) hN) (css_one (cs_app 3 (ce_tup (ca_cons (ce_frz (cf_call h.k161 (hr.mono (by omega)) (F.glo 4) (f161 F).kp (bi161 F) tk (ca_cons (ce_var 4) (ca_cons (ce_var 1) (ca_nil))))) (ca_cons (ce_var 5) (ca_nil))))))) (css_nil)))) (css_one (cs_ret (cf_lst (ca_cons (ce_frz (cf_call h.k161 (hr.mono (by omega)) (F.glo 4) (f161 F).kp (bi161 F) tk (ca_cons (ce_var 2) (ca_cons (ce_var 1) (ca_nil))))) (ca_cons (ce_tupOwn 3 (F.free 12)) (ca_nil)))))))))
set_option linter.unusedVariables false in
theorem o162 (F : Fx fa fb ts gs w K mg) {k : Nat} (h : Hy w K mg base k) : FnOk PR w K mg base (L2.CX PR w) (3 * (k + 1)) (ga K "_law_sum") (fdOf K (ga K "_law_sum")) ["_law_one", "_law_mate"] (spF ⟨PR, w, K, cm K⟩ (runFn T (k + 1) 162)) :=
  ok_def (j := 3 * k + 2) (fn := fn162) (f162 F) sc162 rfl rfl rfl rfl fun cdv A outer s H E hr => by
    have tk := takes_of (X := cxOf (L2.CX PR w) PR w K mg base ["_law_one", "_law_mate"] "_law_sum" (defScope s162) (ga K "_law_sum") cdv A outer s H E) rfl rfl rfl rfl
    have hp := passes_of (X := cxOf (L2.CX PR w) PR w K mg base ["_law_one", "_law_mate"] "_law_sum" (defScope s162) (ga K "_law_sum") cdv A outer s H E) rfl
    have hN := sc162.nd
    show CSs _ _ _ (b162 (runFn T k)) _
    delta b162
    exact css_one (cs_ret (cf_call h.k161 (hr.mono (by omega)) (F.glo 4) (f161 F).kp (bi161 F) tk (ca_cons (ce_op op_addAll rd_add (ce_op op_mulAll rd_mul (ce_ixS (ce_var 0) (ce_int)) (ce_ixS (ce_var 1) (ce_int))) (ce_op op_mulAll rd_mul (ce_ixS (ce_var 1) (ce_int)) (ce_ixS (ce_var 0) (ce_int)))) (ca_cons (ce_op op_mulAll rd_mul (ce_ixS (ce_var 0) (ce_int)) (ce_ixS (ce_var 1) (ce_int))) (ca_nil)))))
set_option linter.unusedVariables false in
theorem o163 (F : Fx fa fb ts gs w K mg) {k : Nat} (h : Hy w K mg base k) : FnOk PR w K mg base (L2.CX PR w) (3 * (k + 1)) (ga K "_law_times") (fdOf K (ga K "_law_times")) ["_law_one", "_law_mate"] (spF ⟨PR, w, K, cm K⟩ (runFn T (k + 1) 163)) :=
  ok_def (j := 3 * k + 2) (fn := fn163) (f163 F) sc163 rfl rfl rfl rfl fun cdv A outer s H E hr => by
    have tk := takes_of (X := cxOf (L2.CX PR w) PR w K mg base ["_law_one", "_law_mate"] "_law_times" (defScope s163) (ga K "_law_times") cdv A outer s H E) rfl rfl rfl rfl
    have hp := passes_of (X := cxOf (L2.CX PR w) PR w K mg base ["_law_one", "_law_mate"] "_law_times" (defScope s163) (ga K "_law_times") cdv A outer s H E) rfl
    have hN := sc163.nd
    show CSs _ _ _ (b163 (runFn T k)) _
    delta b163
    exact css_one (cs_ret (cf_call h.k161 (hr.mono (by omega)) (F.glo 4) (f161 F).kp (bi161 F) tk (ca_cons (ce_op op_mulAll rd_mul (ce_ixS (ce_var 0) (ce_int)) (ce_ixS (ce_var 1) (ce_int))) (ca_cons (ce_op op_mulAll rd_mul (ce_ixS (ce_var 0) (ce_int)) (ce_ixS (ce_var 1) (ce_int))) (ca_nil)))))
set_option linter.unusedVariables false in
theorem o183 (F : Fx fa fb ts gs w K mg) {k : Nat} (h : Hy w K mg base k) : FnOk PR w K mg base (L2.CX PR w) (3 * (k + 1)) (ga K "_law_taken") (fdOf K (ga K "_law_taken")) ["_law_row", "_law_many"] (spF ⟨PR, w, K, cm K⟩ (runFn T (k + 1) 183)) :=
  ok_def (j := 3 * k + 2) (fn := fn183) (f183 F) sc183 rfl rfl rfl rfl fun cdv A outer s H E hr => by
    have tk := takes_of (X := cxOf (L2.CX PR w) PR w K mg base ["_law_row", "_law_many", "_law_cell", "_law_found"] "_law_taken" (defScope s183) (ga K "_law_taken") cdv A outer s H E) rfl rfl rfl rfl
    have hp := passes_of (X := cxOf (L2.CX PR w) PR w K mg base ["_law_row", "_law_many", "_law_cell", "_law_found"] "_law_taken" (defScope s183) (ga K "_law_taken") cdv A outer s H E) rfl
    have hN := sc183.nd
    show CSs _ _ _ (b183 (runFn T k)) _
    delta b183
    exact css_cons (cs_if (ct_cmp op_gt rd_gt (ce_ixS (ce_var 0) (ce_int)) (ce_int)) (css_cons (cs_set 3 (cf_val (ce_op op_mod rd_mod (ce_callTy call_intA rd_int rfl (F.free 17) (by decide +kernel) (ca_cons (ce_ixS (ce_var 0) (ce_int)) (ca_nil))) (ce_var 1))) hN) (css_cons (cs_setIxL (ce_op op_fdivW rd_div (ce_ixS (ce_var 0) (ce_int)) (ce_var 1)) (ce_var 0) (ce_int)) (css_one (cs_ret (cf_val (ce_var 3)))))) (css_nil)) (css_cons (cs_setIxL (ce_op op_addAll rd_add (ce_ixS (ce_var 0) (ce_int)) (ce_int)) (ce_var 0) (ce_int)) (css_cons (cs_if (ct_cmp op_gt rd_gt (ce_ixS (ce_var 0) (ce_int)) (ce_lenS (F.free 8) (ce_ixS (ce_var 0) (ce_int)))) (css_cons (cs_setIxL (ce_op op_mod rd_mod (ce_callTy call_intA rd_int rfl (F.free 17) (by decide +kernel) (ca_cons (ce_op op_addAll rd_add (ce_op op_mulAll rd_mul (ce_ixS (ce_var 0) (ce_int)) (ce_int)) (ce_int)) (ca_nil))) (ce_int)) (ce_var 0) (ce_int)) (css_one (cs_ret (cf_val (ce_op op_mod rd_mod (ce_callTy call_intA rd_int rfl (F.free 17) (by decide +kernel) (ca_cons (ce_op op_fdivW rd_div (ce_ixS (ce_var 0) (ce_int)) (ce_int)) (ca_nil))) (ce_var 1)))))) (css_nil)) (css_cons (cs_set 2 (cf_val (ce_ixS (ce_ixS (ce_var 0) (ce_int)) (ce_op op_sub rd_sub (ce_ixS (ce_var 0) (ce_int)) (ce_int)))) hN) (css_cons (cs_setIxL (ce_op op_mod rd_mod (ce_callTy call_intA rd_int rfl (F.free 17) (by decide +kernel) (ca_cons (ce_op op_addAll rd_add (ce_op op_addAll rd_add (ce_op op_mulAll rd_mul (ce_ixS (ce_var 0) (ce_int)) (ce_int)) (ce_var 2)) (ce_int)) (ca_nil))) (ce_int)) (ce_var 0) (ce_int)) (css_cons (cs_if (ct_cmp op_ge rd_ge (ce_var 2) (ce_op op_pow rd_pow (ce_int) (ce_int))) (css_one (cs_setIxL (ce_op op_fdivW rd_div (ce_var 2) (ce_var 1)) (ce_var 0) (ce_int))) (css_nil)) (css_one (cs_ret (cf_val (ce_op op_mod rd_mod (ce_callTy call_intA rd_int rfl (F.free 17) (by decide +kernel) (ca_cons (ce_var 2) (ca_nil))) (ce_var 1))))))))))
set_option linter.unusedVariables false in
theorem o161 (F : Fx fa fb ts gs w K mg) {k : Nat} (h : Hy w K mg base k) : FnOk PR w K mg base (L2.CX PR w) (3 * (k + 1)) (ga K "_law_frac") (fdOf K (ga K "_law_frac")) ["_law_number", "_law_parts"] (spF ⟨PR, w, K, cm K⟩ (runFn T (k + 1) 161)) :=
  ok_def (j := 3 * k + 2) (fn := fn161) (f161 F) sc161 rfl rfl rfl rfl fun cdv A outer s H E hr => by
    have tk := takes_of (X := cxOf (L2.CX PR w) PR w K mg base ["_law_number", "_law_parts", "_law_one", "_law_mate"] "_law_frac" (defScope s161) (ga K "_law_frac") cdv A outer s H E) rfl rfl rfl rfl
    have hp := passes_of (X := cxOf (L2.CX PR w) PR w K mg base ["_law_number", "_law_parts", "_law_one", "_law_mate"] "_law_frac" (defScope s161) (ga K "_law_frac") cdv A outer s H E) rfl
    have hN := sc161.nd
    show CSs _ _ _ (b161 (runFn T k)) _
    delta b161
    exact css_cons ((by first | exact cs_par 2 3 rfl hN (cf_val (ce_callB call_abs rd_abs rfl (F.free 18) PyProof.Rows.boot_abs (ca_cons (ce_var 0) (ca_nil)))) (cf_val (ce_var 1)) | exact cs_parT 2 3 rfl hN (cf_val (ce_callB call_abs rd_abs rfl (F.free 18) PyProof.Rows.boot_abs (ca_cons (ce_var 0) (ca_nil)))) (cf_val (ce_var 1)))) (css_cons (cs_while hp (ct_cmp op_gt rd_gt (ce_var 3) (ce_int)) (css_one ((by first | exact cs_par 2 3 rfl hN (cf_val (ce_var 3)) (cf_val (ce_op op_mod rd_mod (ce_var 2) (ce_var 3))) | exact cs_parT 2 3 rfl hN (cf_val (ce_var 3)) (cf_val (ce_op op_mod rd_mod (ce_var 2) (ce_var 3))))))) (css_one (cs_ret (cf_val (ce_tup (ca_cons (ce_op op_fdivW rd_div (ce_var 0) (ce_var 2)) (ca_cons (ce_op op_fdivW rd_div (ce_var 1) (ce_var 2)) (ca_nil))))))))
set_option linter.unusedVariables false in
theorem o186 (F : Fx fa fb ts gs w K mg) {k : Nat} (h : Hy w K mg base k) : FnOk PR w K mg base (L2.CX PR w) (3 * (k + 1)) (ga K "_law_between") (fdOf K (ga K "_law_between")) ["_law_mech", "_law_start", "_law_end"] (spF ⟨PR, w, K, cm K⟩ (runFn T (k + 1) 186)) :=
  ok_def (j := 3 * k + 2) (fn := fn186) (f186 F) sc186 rfl rfl rfl rfl fun cdv A outer s H E hr => by
    have tk := takes_of (X := cxOf (L2.CX PR w) PR w K mg base ["_law_mech", "_law_start", "_law_end", "_law_found", "_law_size", "_law_first", "_law_k", "_law_time", "_law_letters", "_law_here"] "_law_between" (defScope s186) (ga K "_law_between") cdv A outer s H E) rfl rfl rfl rfl
    have hp := passes_of (X := cxOf (L2.CX PR w) PR w K mg base ["_law_mech", "_law_start", "_law_end", "_law_found", "_law_size", "_law_first", "_law_k", "_law_time", "_law_letters", "_law_here"] "_law_between" (defScope s186) (ga K "_law_between") cdv A outer s H E) rfl
    have hN := sc186.nd
    show CSs _ _ _ (b186 (runFn T k)) _
    delta b186
    exact css_cons (cs_set 3 (cf_lst (ca_nil)) hN) (css_cons (cs_set 4 (cf_val (ce_ixS (ce_var 0) (ce_int))) hN) (css_cons (cs_set 5 (cf_val (ce_frz (cf_call h.k163 (hr.mono (by omega)) (F.glo 3) (f163 F).kp (bi163 F) tk (ca_cons (ce_var 1) (ca_cons (ce_tup (ca_cons (ce_ixS (ce_var 4) (ce_int)) (ca_cons (ce_ixS (ce_var 4) (ce_int)) (ca_nil)))) (ca_nil)))))) hN) (css_cons (cs_set 6 (cf_val (ce_op op_fdivW rd_div (ce_ixS (ce_var 5) (ce_int)) (ce_ixS (ce_var 5) (ce_int)))) hN) (css_cons (cs_while hp (ct_val (ce_frz (cf_call h.k164 (hr.mono (by omega)) (F.glo 9) (f164 F).kp (bi164 F) tk (ca_cons (ce_frz (cf_call h.k163 (hr.mono (by omega)) (F.glo 3) (f163 F).kp (bi163 F) tk (ca_cons (ce_var 4) (ca_cons (ce_tup (ca_cons (ce_var 6) (ca_cons (ce_int) (ca_nil)))) (ca_nil))))) (ca_cons (ce_var 2) (ca_nil)))))) (css_cons (cs_for hp rfl (ci_any (ce_ixS (ce_var 0) (ce_int))) (cg_of (cgp_tup rfl (cgps_cons (cgp_name 7 hN) (cgps_cons (cgp_name 8 hN) (cgps_nil))))) (css_cons (cs_set 9 (cf_val (ce_frz (cf_call h.k162 (hr.mono (by omega)) (F.glo 5) (f162 F).kp (bi162 F) tk (ca_cons (ce_frz (cf_call h.k163 (hr.mono (by omega)) (F.glo 3) (f163 F).kp (bi163 F) tk (ca_cons (ce_var 4) (ca_cons (ce_tup (ca_cons (ce_var 6) (ca_cons (ce_int) (ca_nil)))) (ca_nil))))) (ca_cons (ce_var 7) (ca_nil)))))) hN) (css_one (cs_if (ct_w (cw_and (ct_not (ct_val (ce_frz (cf_call h.k164 (hr.mono (by omega)) (F.glo 9) (f164 F).kp (bi164 F) tk (ca_cons (ce_var 9) (ca_cons (ce_var 1) (ca_nil))))))) (cw_and1 (ct_val (ce_frz (cf_call h.k164 (hr.mono (by omega)) (F.glo 9) (f164 F).kp (bi164 F) tk (ca_cons (ce_var 9) (ca_cons (ce_var 2) (ca_nil))))))))) (css_one (cs_app 3 (ce_tup (ca_cons (ce_var 9) (ca_cons (ce_var 8) (ca_nil)))))) (css_nil))))) (css_one (cs_set 6 (cf_val (ce_op op_addAll rd_add (ce_var 6) (ce_int))) hN)))) (css_one (cs_retV 3))))))
set_option linter.unusedVariables false in
theorem o185 (F : Fx fa fb ts gs w K mg) {k : Nat} (h : Hy w K mg base k) : FnOk PR w K mg base (L2.CX PR w) (3 * (k + 1)) (ga K "_law_least") (fdOf K (ga K "_law_least")) ["_law_period", "_law_beats_here"] (spF ⟨PR, w, K, cm K⟩ (runFn T (k + 1) 185)) :=
  ok_def (j := 3 * k + 2) (fn := fn185) (f185 F) sc185 rfl rfl rfl rfl fun cdv A outer s H E hr => by
    have tk := takes_of (X := cxOf (L2.CX PR w) PR w K mg base ["_law_period", "_law_beats_here", "_law_best", "_law_known", "_law_part", "_law_size", "_law_good", "_law_time", "_law_letters", "_law_later", "_law_beat"] "_law_least" (defScope s185) (ga K "_law_least") cdv A outer s H E) rfl rfl rfl rfl
    have hp := passes_of (X := cxOf (L2.CX PR w) PR w K mg base ["_law_period", "_law_beats_here", "_law_best", "_law_known", "_law_part", "_law_size", "_law_good", "_law_time", "_law_letters", "_law_later", "_law_beat"] "_law_least" (defScope s185) (ga K "_law_least") cdv A outer s H E) rfl
    have hN := sc185.nd
    show CSs _ _ _ (b185 (runFn T k)) _
    delta b185
    exact css_cons (cs_if (ct_cmp (op_eqD hr.units) rd_eq (ce_lenS (F.free 8) (ce_var 1)) (ce_int)) (css_one (cs_ret (cf_val (ce_tup (ca_cons (ce_tup (ca_cons (ce_int) (ca_cons (ce_int) (ca_nil)))) (ca_cons (ce_tup (ca_nil)) (ca_nil))))))) (css_nil)) (css_cons (cs_set 2 (cf_val (ce_tup (ca_cons (ce_var 0) (ca_cons (ce_callTy call_tupleN rd_tuple rfl (F.free 12) (by decide +kernel) (ca_cons (ce_var 1) (ca_nil))) (ca_nil))))) hN) (css_cons (cs_set 3 (cf_val (ce_callTy (call_dictN hr) rd_dict rfl (F.free 19) (by decide +kernel) (ca_cons (ce_var 1) (ca_nil)))) hN) (css_cons (cs_for hp rfl (ci_rng2 (F.free 0) (ce_int) (ce_op op_addAll rd_add (ce_lenS (F.free 8) (ce_var 1)) (ce_int))) (cg_of (cgp_name 4 hN)) (css_cons (cs_set 5 (cf_val (ce_frz (cf_call h.k163 (hr.mono (by omega)) (F.glo 3) (f163 F).kp (bi163 F) tk (ca_cons (ce_var 0) (ca_cons (ce_tup (ca_cons (ce_int) (ca_cons (ce_var 4) (ca_nil)))) (ca_nil)))))) hN) (css_cons (cs_set 6 (cf_val (ce_bl)) hN) (css_cons (cs_for hp rfl (ci_any (ce_var 1)) (cg_of (cgp_tup rfl (cgps_cons (cgp_name 7 hN) (cgps_cons (cgp_name 8 hN) (cgps_nil))))) (css_cons (cs_set 9 (cf_val (ce_frz (cf_call h.k162 (hr.mono (by omega)) (F.glo 5) (f162 F).kp (bi162 F) tk (ca_cons (ce_var 7) (ca_cons (ce_var 5) (ca_nil)))))) hN) (css_cons (cs_if (ct_not (ct_val (ce_frz (cf_call h.k164 (hr.mono (by omega)) (F.glo 9) (f164 F).kp (bi164 F) tk (ca_cons (ce_var 9) (ca_cons (ce_var 0) (ca_nil))))))) (css_one (cs_set 9 (cf_val (ce_frz (cf_call h.k162 (hr.mono (by omega)) (F.glo 5) (f162 F).kp (bi162 F) tk (ca_cons (ce_var 9) (ca_cons (ce_tup (ca_cons (ce_op op_sub rd_sub (ce_int) (ce_ixS (ce_var 0) (ce_int))) (ca_cons (ce_ixS (ce_var 0) (ce_int)) (ca_nil)))) (ca_nil)))))) hN)) (css_nil)) (css_one (cs_set 6 (cf_val (ce_and (ce_var 6) (ce_one (ce_cmp (op_eqD hr.units) rd_eq (ce_dget hr (ce_var 3) (ce_var 9) (ce_str (s := []))) (ce_var 8))))) hN))))) (css_one (cs_if (ct_val (ce_var 6)) (css_one (cs_set 2 (cf_val (ce_tup (ca_cons (ce_var 5) (ca_cons (ce_callTy call_tupleN rd_tuple rfl (F.free 12) (by decide +kernel) (ca_cons (ce_frz (cf_lc (own := [("_law_beat", 10)]) rfl hN (ci_any (ce_var 1)) (BlkOk.mk (N := ["_law_period", "_law_beats_here", "_law_best", "_law_known", "_law_part", "_law_size", "_law_good", "_law_time", "_law_letters", "_law_later", "_law_beat"]) (sc := defScope s185) rfl (by decide +kernel) (by decide +kernel) (by decide +kernel) (by decide +kernel)) (by decide +kernel) (fun _ _ _ _ _ => cgp_name 10 hN) (fun _ _ _ _ _ => cts_one (ct_val (ce_frz (cf_call h.k164 (hr.mono (by omega)) (F.glo 9) (f164 F).kp (bi164 F) takes0 (ca_cons (ce_ixS (ce_var 10) (ce_int)) (ca_cons (ce_var 5) (ca_nil))))))) (fun _ _ _ _ _ => ce_var 10))) (ca_nil))) (ca_nil))))) hN)) (css_nil))))))) (css_one (cs_ret (cf_val (ce_var 2)))))))
set_option linter.unusedVariables false in
theorem o164 (F : Fx fa fb ts gs w K mg) {k : Nat} (h : Hy w K mg base k) : FnOk PR w K mg base (L2.CX PR w) (3 * (k + 1)) (ga K "_law_less") (fdOf K (ga K "_law_less")) ["_law_one", "_law_mate"] (spF ⟨PR, w, K, cm K⟩ (runFn T (k + 1) 164)) :=
  ok_def (j := 3 * k + 2) (fn := fn164) (f164 F) sc164 rfl rfl rfl rfl fun cdv A outer s H E hr => by
    have tk := takes_of (X := cxOf (L2.CX PR w) PR w K mg base ["_law_one", "_law_mate"] "_law_less" (defScope s164) (ga K "_law_less") cdv A outer s H E) rfl rfl rfl rfl
    have hp := passes_of (X := cxOf (L2.CX PR w) PR w K mg base ["_law_one", "_law_mate"] "_law_less" (defScope s164) (ga K "_law_less") cdv A outer s H E) rfl
    have hN := sc164.nd
    show CSs _ _ _ (b164 (runFn T k)) _
    delta b164
    exact css_one (cs_ret (cf_val (ce_cmp op_ltAll rd_lt (ce_op op_mulAll rd_mul (ce_ixS (ce_var 0) (ce_int)) (ce_ixS (ce_var 1) (ce_int))) (ce_op op_mulAll rd_mul (ce_ixS (ce_var 1) (ce_int)) (ce_ixS (ce_var 0) (ce_int))))))
set_option linter.unusedVariables false in
theorem o1 (F : Fx fa fb ts gs w K mg) {k : Nat} (h : Hy w K mg base k) : FnOk PR w K mg base (L2.CX PR w) (3 * (k + 1)) (ga K "_law_may") (fdOf K (ga K "_law_may")) ["_law_beats_here", "_law_until", "_law_period"] (spF ⟨PR, w, K, cm K⟩ (runFn T (k + 1) 1)) :=
  ok_def (j := 3 * k + 2) (fn := fn1) (f1 F) sc1 rfl rfl rfl rfl fun cdv A outer s H E hr => by
    have tk := takes_of (X := cxOf (L2.CX PR w) PR w K mg base ["_law_beats_here", "_law_until", "_law_period", "_law_known", "_law_times_here", "_law_time", "_law_later", "_law_before", "_law_letters"] "_law_may" (defScope s1) (ga K "_law_may") cdv A outer s H E) rfl rfl rfl rfl
    have hp := passes_of (X := cxOf (L2.CX PR w) PR w K mg base ["_law_beats_here", "_law_until", "_law_period", "_law_known", "_law_times_here", "_law_time", "_law_later", "_law_before", "_law_letters"] "_law_may" (defScope s1) (ga K "_law_may") cdv A outer s H E) rfl
    have hN := sc1.nd
    show CSs _ _ _ (b1 (runFn T k)) _
    delta b1
    exact css_cons (cs_set 3 (cf_val (ce_callTy (call_dictN hr) rd_dict rfl (F.free 19) (by decide +kernel) (ca_cons (ce_var 0) (ca_nil)))) hN) (css_cons (cs_setLc 4 (own := [("_law_time", 5), ("_law_letters", 8)]) rfl hN (ci_any (ce_var 0)) (BlkOk.mk (N := ["_law_beats_here", "_law_until", "_law_period", "_law_known", "_law_times_here", "_law_time", "_law_later", "_law_before", "_law_letters"]) (sc := defScope s1) rfl (by decide +kernel) (by decide +kernel) (by decide +kernel) (by decide +kernel)) (by decide +kernel) (fun _ _ _ _ _ => cgp_tup rfl (cgps_cons (cgp_name 5 hN) (cgps_cons (cgp_name 8 hN) (cgps_nil)))) (fun _ _ _ _ _ => cts_nil) (fun _ _ _ _ _ => ce_var 5) (hw := fun _ _ _ h => w_frz (w_val h))) (css_cons (cs_for hp rfl (ci_any (ce_var 4)) (cg_of (cgp_name 5 hN)) (css_cons (cs_set 6 (cf_val (ce_frz (cf_call h.k162 (hr.mono (by omega)) (F.glo 5) (f162 F).kp (bi162 F) tk (ca_cons (ce_var 5) (ca_cons (ce_var 2) (ca_nil)))))) hN) (css_cons (cs_set 7 (cf_val (ce_frz (cf_call h.k162 (hr.mono (by omega)) (F.glo 5) (f162 F).kp (bi162 F) tk (ca_cons (ce_var 5) (ca_cons (ce_tup (ca_cons (ce_op op_sub rd_sub (ce_int) (ce_ixS (ce_var 2) (ce_int))) (ca_cons (ce_ixS (ce_var 2) (ce_int)) (ca_nil)))) (ca_nil)))))) hN) (css_cons (cs_if (ct_w (cw_and (ct_val (ce_frz (cf_call h.k164 (hr.mono (by omega)) (F.glo 9) (f164 F).kp (bi164 F) tk (ca_cons (ce_var 6) (ca_cons (ce_var 1) (ca_nil)))))) (cw_and1 (ct_cmp (op_neD hr.units) rd_ne (ce_dget hr (ce_var 3) (ce_var 6) (ce_str (s := []))) (ce_dix hr (ce_var 3) (ce_var 5)))))) (css_one (cs_ret (cf_val (ce_bl)))) (css_nil)) (css_one (cs_if (ct_w (cw_and (ct_cmp op_ge rd_ge (ce_ixS (ce_var 7) (ce_int)) (ce_int)) (cw_and1 (ct_cmp (op_neD hr.units) rd_ne (ce_dget hr (ce_var 3) (ce_var 7) (ce_str (s := []))) (ce_dix hr (ce_var 3) (ce_var 5)))))) (css_one (cs_ret (cf_val (ce_bl)))) (css_nil))))))) (css_one (cs_ret (cf_val (ce_bl))))))
set_option linter.unusedVariables false in
theorem o138 (F : Fx fa fb ts gs w K mg) {k : Nat} (h : Hy w K mg base k) : FnOk PR w K mg base (L2.CX PR w) (3 * (k + 1)) (ga K "rounds") (fdOf K (ga K "rounds")) ["beats", "until", "grid"] (spF ⟨PR, w, K, cm K⟩ (runFn T (k + 1) 138)) :=
  ok_def (j := 3 * k + 2) (fn := fn138) (f138 F) sc138 rfl rfl rfl rfl fun cdv A outer s H E hr => by
    have tk := takes_of (X := cxOf (L2.CX PR w) PR w K mg base ["beats", "until", "grid", "many", "known", "found", "period"] "rounds" (defScope s138) (ga K "rounds") cdv A outer s H E) rfl rfl rfl rfl
    have hp := passes_of (X := cxOf (L2.CX PR w) PR w K mg base ["beats", "until", "grid", "many", "known", "found", "period"] "rounds" (defScope s138) (ga K "rounds") cdv A outer s H E) rfl
    have hN := sc138.nd
    show CSs _ _ _ (b138 (runFn T k)) _
    delta b138
    exact css_cons (cs_drop (ce_frz (cf_call h.k136 (hr.mono (by omega)) (F.glo 20) (f136 F).kp (bi136 F) tk (ca_cons (ce_var 0) (ca_cons (ce_var 1) (ca_cons (ce_var 2) (ca_nil))))))) (css_cons ((by first | exact cs_par 4 5 rfl hN (cf_val (ce_callTy (call_dictN hr) rd_dict rfl (F.free 19) (by decide +kernel) (ca_cons (ce_var 0) (ca_nil)))) (cf_lst (ca_nil)) | exact cs_parT 4 5 rfl hN (cf_val (ce_callTy (call_dictN hr) rd_dict rfl (F.free 19) (by decide +kernel) (ca_cons (ce_var 0) (ca_nil)))) (cf_lst (ca_nil)))) (css_cons (cs_for hp rfl (ci_rng2 (F.free 0) (ce_int) (ce_op op_addAll rd_add (ce_frz (cf_call h.k74 (hr.mono (by omega)) (F.glo 22) (f74 F).kp (bi74 F) tk (ca_cons (ce_frz (cf_call h.k72 (hr.mono (by omega)) (F.glo 21) (f72 F).kp (bi72 F) tk (ca_cons (ce_var 1) (ca_cons (ce_var 2) (ca_nil))))) (ca_nil)))) (ce_int))) (cg_of (cgp_name 3 hN)) (css_cons (cs_set 6 (cf_val (ce_frz (cf_call h.k71 (hr.mono (by omega)) (F.glo 23) (f71 F).kp (bi71 F) tk (ca_cons (ce_var 2) (ca_cons (ce_tup (ca_cons (ce_var 3) (ca_cons (ce_int) (ca_nil)))) (ca_nil)))))) hN) (css_one (cs_if (ct_val (ce_frz (cf_call h.k137 (hr.mono (by omega)) (F.glo 24) (f137 F).kp (bi137 F) tk (ca_cons (ce_var 0) (ca_cons (ce_var 4) (ca_cons (ce_var 1) (ca_cons (ce_var 6) (ca_nil)))))))) (css_one (cs_app 5 (ce_var 6))) (css_nil))))) (css_one (cs_retV 5))))
set_option linter.unusedVariables false in
theorem o140 (F : Fx fa fb ts gs w K mg) {k : Nat} (h : Hy w K mg base k) : FnOk PR w K mg base (L2.CX PR w) (3 * (k + 1)) (ga K "expected") (fdOf K (ga K "expected")) ["beats", "until", "grid"] (spF ⟨PR, w, K, cm K⟩ (runFn T (k + 1) 140)) :=
  ok_def (j := 3 * k + 2) (fn := fn140) (f140 F) sc140 rfl rfl rfl rfl fun cdv A outer s H E hr => by
    have tk := takes_of (X := cxOf (L2.CX PR w) PR w K mg base ["beats", "until", "grid", "period"] "expected" (defScope s140) (ga K "expected") cdv A outer s H E) rfl rfl rfl rfl
    have hp := passes_of (X := cxOf (L2.CX PR w) PR w K mg base ["beats", "until", "grid", "period"] "expected" (defScope s140) (ga K "expected") cdv A outer s H E) rfl
    have hN := sc140.nd
    show CSs _ _ _ (b140 (runFn T k)) _
    delta b140
    exact css_one (cs_ret (cf_val (ce_dc (own := [("period", 3)]) hr rfl hN (ci_any (ce_frz (cf_call h.k138 (hr.mono (by omega)) (F.glo 11) (f138 F).kp (bi138 F) tk (ca_cons (ce_var 0) (ca_cons (ce_var 1) (ca_cons (ce_var 2) (ca_nil))))))) (BlkOk.mk (N := ["beats", "until", "grid", "period"]) (sc := defScope s140) rfl (by decide +kernel) (by decide +kernel) (by decide +kernel) (by decide +kernel)) (by decide +kernel) (fun _ _ _ _ _ => cgp_name 3 hN) (fun _ _ _ _ _ => cts_nil) (fun _ _ _ _ _ => ce_var 3) (fun _ _ _ _ _ => ce_frz (cf_call h.k139 (hr.mono (by omega)) (F.glo 25) (f139 F).kp (bi139 F) takes0 (ca_cons (ce_var 0) (ca_cons (ce_var 1) (ca_cons (ce_var 3) (ca_nil)))))))))
set_option linter.unusedVariables false in
theorem o2 (F : Fx fa fb ts gs w K mg) {k : Nat} (h : Hy w K mg base k) : FnOk PR w K mg base (L2.CX PR w) (3 * (k + 1)) (ga K "_law_next") (fdOf K (ga K "_law_next")) ["_law_beats_here", "_law_until", "_law_period"] (spF ⟨PR, w, K, cm K⟩ (runFn T (k + 1) 2)) :=
  ok_def (j := 3 * k + 2) (fn := fn2) (f2 F) sc2 rfl rfl rfl rfl fun cdv A outer s H E hr => by
    have tk := takes_of (X := cxOf (L2.CX PR w) PR w K mg base ["_law_beats_here", "_law_until", "_law_period", "_law_some", "_law_found", "_law_beat"] "_law_next" (defScope s2) (ga K "_law_next") cdv A outer s H E) rfl rfl rfl rfl
    have hp := passes_of (X := cxOf (L2.CX PR w) PR w K mg base ["_law_beats_here", "_law_until", "_law_period", "_law_some", "_law_found", "_law_beat"] "_law_next" (defScope s2) (ga K "_law_next") cdv A outer s H E) rfl
    have hN := sc2.nd
    show CSs _ _ _ (b2 (runFn T k)) _
    delta b2
    exact css_cons (cs_setLc 3 (own := [("_law_beat", 5)]) rfl hN (ci_any (ce_var 0)) (BlkOk.mk (N := ["_law_beats_here", "_law_until", "_law_period", "_law_some", "_law_found", "_law_beat"]) (sc := defScope s2) rfl (by decide +kernel) (by decide +kernel) (by decide +kernel) (by decide +kernel)) (by decide +kernel) (fun _ _ _ _ _ => cgp_name 5 hN) (fun _ _ _ _ _ => cts_one (ct_val (ce_frz (cf_call h.k164 (hr.mono (by omega)) (F.glo 9) (f164 F).kp (bi164 F) takes0 (ca_cons (ce_ixS (ce_var 5) (ce_int)) (ca_cons (ce_var 2) (ca_nil))))))) (fun _ _ _ _ _ => ce_var 5) (hw := fun _ _ _ h => w_frz (w_val h))) (css_cons (cs_if (ct_cmp (op_eqD hr.units) rd_eq (ce_var 3) (ce_frz (cf_lst (ca_nil)))) (css_one (cs_ret (cf_val (ce_non)))) (css_nil)) (css_cons (cs_set 4 (cf_val (ce_frz (cf_call h.k186 (hr.mono (by omega)) (F.glo 7) (f186 F).kp (bi186 F) tk (ca_cons (ce_tup (ca_cons (ce_var 2) (ca_cons (ce_callTy call_tupleN rd_tuple rfl (F.free 12) (by decide +kernel) (ca_cons (ce_var 3) (ca_nil))) (ca_nil)))) (ca_cons (ce_var 1) (ca_cons (ce_frz (cf_call h.k162 (hr.mono (by omega)) (F.glo 5) (f162 F).kp (bi162 F) tk (ca_cons (ce_var 1) (ca_cons (ce_frz (cf_call h.k162 (hr.mono (by omega)) (F.glo 5) (f162 F).kp (bi162 F) tk (ca_cons (ce_var 2) (ca_cons (ce_var 2) (ca_nil))))) (ca_nil))))) (ca_nil))))))) hN) (css_one (cs_ret (cf_val (ce_ixS (ce_var 4) (ce_int)))))))
set_option linter.unusedVariables false in
theorem o3 (F : Fx fa fb ts gs w K mg) {k : Nat} (h : Hy w K mg base k) : FnOk PR w K mg base (L2.CX PR w) (3 * (k + 1)) (ga K "_law_refused") (fdOf K (ga K "_law_refused")) ["_law_beats_here", "_law_until", "_law_grid", "_law_kind"] (spF ⟨PR, w, K, cm K⟩ (runFn T (k + 1) 3)) :=
  ok_def (j := 3 * k + 2) (fn := fn3) (f3 F) sc3 rfl rfl rfl rfl fun cdv A outer s H E hr => by
    have tk := takes_of (X := cxOf (L2.CX PR w) PR w K mg base ["_law_beats_here", "_law_until", "_law_grid", "_law_kind", "_law_told"] "_law_refused" (defScope s3) (ga K "_law_refused") cdv A outer s H E) rfl rfl rfl rfl
    have hp := passes_of (X := cxOf (L2.CX PR w) PR w K mg base ["_law_beats_here", "_law_until", "_law_grid", "_law_kind", "_law_told"] "_law_refused" (defScope s3) (ga K "_law_refused") cdv A outer s H E) rfl
    have hN := sc3.nd
    show CSs _ _ _ (b3 (runFn T k)) _
    delta b3
    exact css_cons (cs_set 4 (cf_val (ce_bl)) hN) (css_cons (cs_try rfl rfl tk (fun W1 pn1 xe1 tk1 hp1 => css_one (cs_drop (ce_frz (cf_pick h.k138 h.k140 (hr.mono (by omega)) (F.glo 11) (f138 F).kp (F.glo 13) (f140 F).kp (bi138 F) (bi140 F) tk1 (ce_var 3) (ca_cons (ce_var 0) (ca_cons (ce_var 1) (ca_cons (ce_var 2) (ca_nil)))))))) (Clauses.cons ⟨rfl, rfl, .inl (F.glo 26)⟩ (catch_InvalidHeard F) (fun _ _ _ _ _ _ _ => css_one (cs_set 4 (cf_val (ce_bl)) hN)) .nil)) (css_one (cs_ret (cf_val (ce_var 4)))))
set_option linter.unusedVariables false in
theorem o136 (F : Fx fa fb ts gs w K mg) {k : Nat} (h : Hy w K mg base k) : FnOk PR w K mg base (L2.CX PR w) (3 * (k + 1)) (ga K "check_heard") (fdOf K (ga K "check_heard")) ["beats", "until", "grid"] (spF ⟨PR, w, K, cm K⟩ (runFn T (k + 1) 136)) :=
  ok_def (j := 3 * k + 2) (fn := fn136) (f136 F) sc136 rfl rfl rfl rfl fun cdv A outer s H E hr => by
    have tk := takes_of (X := cxOf (L2.CX PR w) PR w K mg base ["beats", "until", "grid"] "check_heard" (defScope s136) (ga K "check_heard") cdv A outer s H E) rfl rfl rfl rfl
    have hp := passes_of (X := cxOf (L2.CX PR w) PR w K mg base ["beats", "until", "grid"] "check_heard" (defScope s136) (ga K "check_heard") cdv A outer s H E) rfl
    have hN := sc136.nd
    show CSs _ _ _ (b136 (runFn T k)) _
    delta b136
    exact css_one (cs_if (ct_w (cw_or (ct_not (ct_val (ce_isi2 (by decide) (by decide) (F.free 27) (F.free 14) (by decide +kernel) (F.free 12) (by decide +kernel) (ce_var 0)))) (cw_or (ct_not (ct_val (ce_frz (cf_call h.k105 (hr.mono (by omega)) (F.glo 28) (f105 F).kp (bi105 F) tk (ca_cons (ce_var 1) (ca_nil)))))) (cw_or (ct_not (ct_val (ce_frz (cf_call h.k105 (hr.mono (by omega)) (F.glo 28) (f105 F).kp (bi105 F) tk (ca_cons (ce_var 2) (ca_nil)))))) (cw_or1 (ct_not (ct_val (ce_frz (cf_call h.k108 (hr.mono (by omega)) (F.glo 29) (f108 F).kp (bi108 F) tk (ca_cons (ce_var 0) (ca_cons (ce_var 1) (ca_nil)))))))))))) (css_one (cs_raise0 rfl tk (oex_ok (F.more 0)) (ini_ok (F.more 1)).1 (ini_ok (F.more 1)).2 (xk_InvalidHeard F (j := 0)) (hr.mono (by omega)) (xb_InvalidHeard F) (F.glo 26) rfl)) (css_nil))
set_option linter.unusedVariables false in
theorem o74 (F : Fx fa fb ts gs w K mg) {k : Nat} (h : Hy w K mg base k) : FnOk PR w K mg base (L2.CX PR w) (3 * (k + 1)) (ga K "floor") (fdOf K (ga K "floor")) ["one"] (spF ⟨PR, w, K, cm K⟩ (runFn T (k + 1) 74)) :=
  ok_def (j := 3 * k + 2) (fn := fn74) (f74 F) sc74 rfl rfl rfl rfl fun cdv A outer s H E hr => by
    have tk := takes_of (X := cxOf (L2.CX PR w) PR w K mg base ["one"] "floor" (defScope s74) (ga K "floor") cdv A outer s H E) rfl rfl rfl rfl
    have hp := passes_of (X := cxOf (L2.CX PR w) PR w K mg base ["one"] "floor" (defScope s74) (ga K "floor") cdv A outer s H E) rfl
    have hN := sc74.nd
    show CSs _ _ _ (b74 (runFn T k)) _
    delta b74
    exact css_one (cs_ret (cf_val (ce_op op_fdivW rd_div (ce_ixS (ce_var 0) (ce_int)) (ce_ixS (ce_var 0) (ce_int)))))
set_option linter.unusedVariables false in
theorem o72 (F : Fx fa fb ts gs w K mg) {k : Nat} (h : Hy w K mg base k) : FnOk PR w K mg base (L2.CX PR w) (3 * (k + 1)) (ga K "over") (fdOf K (ga K "over")) ["one", "other"] (spF ⟨PR, w, K, cm K⟩ (runFn T (k + 1) 72)) :=
  ok_def (j := 3 * k + 2) (fn := fn72) (f72 F) sc72 rfl rfl rfl rfl fun cdv A outer s H E hr => by
    have tk := takes_of (X := cxOf (L2.CX PR w) PR w K mg base ["one", "other"] "over" (defScope s72) (ga K "over") cdv A outer s H E) rfl rfl rfl rfl
    have hp := passes_of (X := cxOf (L2.CX PR w) PR w K mg base ["one", "other"] "over" (defScope s72) (ga K "over") cdv A outer s H E) rfl
    have hN := sc72.nd
    show CSs _ _ _ (b72 (runFn T k)) _
    delta b72
    exact css_one (cs_ret (cf_call h.k67 (hr.mono (by omega)) (F.glo 30) (f67 F).kp (bi67 F) tk (ca_cons (ce_op op_mulAll rd_mul (ce_ixS (ce_var 0) (ce_int)) (ce_ixS (ce_var 1) (ce_int))) (ca_cons (ce_op op_mulAll rd_mul (ce_ixS (ce_var 0) (ce_int)) (ce_ixS (ce_var 1) (ce_int))) (ca_nil)))))
set_option linter.unusedVariables false in
theorem o71 (F : Fx fa fb ts gs w K mg) {k : Nat} (h : Hy w K mg base k) : FnOk PR w K mg base (L2.CX PR w) (3 * (k + 1)) (ga K "product") (fdOf K (ga K "product")) ["one", "other"] (spF ⟨PR, w, K, cm K⟩ (runFn T (k + 1) 71)) :=
  ok_def (j := 3 * k + 2) (fn := fn71) (f71 F) sc71 rfl rfl rfl rfl fun cdv A outer s H E hr => by
    have tk := takes_of (X := cxOf (L2.CX PR w) PR w K mg base ["one", "other"] "product" (defScope s71) (ga K "product") cdv A outer s H E) rfl rfl rfl rfl
    have hp := passes_of (X := cxOf (L2.CX PR w) PR w K mg base ["one", "other"] "product" (defScope s71) (ga K "product") cdv A outer s H E) rfl
    have hN := sc71.nd
    show CSs _ _ _ (b71 (runFn T k)) _
    delta b71
    exact css_one (cs_ret (cf_call h.k67 (hr.mono (by omega)) (F.glo 30) (f67 F).kp (bi67 F) tk (ca_cons (ce_op op_mulAll rd_mul (ce_ixS (ce_var 0) (ce_int)) (ce_ixS (ce_var 1) (ce_int))) (ca_cons (ce_op op_mulAll rd_mul (ce_ixS (ce_var 0) (ce_int)) (ce_ixS (ce_var 1) (ce_int))) (ca_nil)))))
set_option linter.unusedVariables false in
theorem o137 (F : Fx fa fb ts gs w K mg) {k : Nat} (h : Hy w K mg base k) : FnOk PR w K mg base (L2.CX PR w) (3 * (k + 1)) (ga K "may_come_round") (fdOf K (ga K "may_come_round")) ["beats", "known", "until", "period"] (spF ⟨PR, w, K, cm K⟩ (runFn T (k + 1) 137)) :=
  ok_def (j := 3 * k + 2) (fn := fn137) (f137 F) sc137 rfl rfl rfl rfl fun cdv A outer s H E hr => by
    have tk := takes_of (X := cxOf (L2.CX PR w) PR w K mg base ["beats", "known", "until", "period", "time", "letters", "later", "earlier"] "may_come_round" (defScope s137) (ga K "may_come_round") cdv A outer s H E) rfl rfl rfl rfl
    have hp := passes_of (X := cxOf (L2.CX PR w) PR w K mg base ["beats", "known", "until", "period", "time", "letters", "later", "earlier"] "may_come_round" (defScope s137) (ga K "may_come_round") cdv A outer s H E) rfl
    have hN := sc137.nd
    show CSs _ _ _ (b137 (runFn T k)) _
    delta b137
    exact css_cons (cs_for hp rfl (ci_any (ce_var 0)) (cg_of (cgp_tup rfl (cgps_cons (cgp_name 4 hN) (cgps_cons (cgp_name 5 hN) (cgps_nil))))) (css_cons ((by first | exact cs_par 6 7 rfl hN (cf_val (ce_frz (cf_call h.k69 (hr.mono (by omega)) (F.glo 31) (f69 F).kp (bi69 F) tk (ca_cons (ce_var 4) (ca_cons (ce_var 3) (ca_nil)))))) (cf_val (ce_frz (cf_call h.k70 (hr.mono (by omega)) (F.glo 32) (f70 F).kp (bi70 F) tk (ca_cons (ce_var 4) (ca_cons (ce_var 3) (ca_nil)))))) | exact cs_parT 6 7 rfl hN (cf_val (ce_frz (cf_call h.k69 (hr.mono (by omega)) (F.glo 31) (f69 F).kp (bi69 F) tk (ca_cons (ce_var 4) (ca_cons (ce_var 3) (ca_nil)))))) (cf_val (ce_frz (cf_call h.k70 (hr.mono (by omega)) (F.glo 32) (f70 F).kp (bi70 F) tk (ca_cons (ce_var 4) (ca_cons (ce_var 3) (ca_nil)))))))) (css_cons (cs_if (ct_w (cw_and (ct_val (ce_frz (cf_call h.k73 (hr.mono (by omega)) (F.glo 33) (f73 F).kp (bi73 F) tk (ca_cons (ce_var 6) (ca_cons (ce_var 2) (ca_nil)))))) (cw_and1 (ct_cmp (op_neD hr.units) rd_ne (ce_dget hr (ce_var 1) (ce_var 6) (ce_str (s := []))) (ce_var 5))))) (css_one (cs_ret (cf_val (ce_bl)))) (css_nil)) (css_one (cs_if (ct_w (cw_and (ct_cmp op_ge rd_ge (ce_ixS (ce_var 7) (ce_int)) (ce_int)) (cw_and1 (ct_cmp (op_neD hr.units) rd_ne (ce_dget hr (ce_var 1) (ce_var 7) (ce_str (s := []))) (ce_var 5))))) (css_one (cs_ret (cf_val (ce_bl)))) (css_nil)))))) (css_one (cs_ret (cf_val (ce_bl))))
set_option linter.unusedVariables false in
theorem o139 (F : Fx fa fb ts gs w K mg) {k : Nat} (h : Hy w K mg base k) : FnOk PR w K mg base (L2.CX PR w) (3 * (k + 1)) (ga K "next_beat") (fdOf K (ga K "next_beat")) ["beats", "until", "period"] (spF ⟨PR, w, K, cm K⟩ (runFn T (k + 1) 139)) :=
  ok_def (j := 3 * k + 2) (fn := fn139) (f139 F) sc139 rfl rfl rfl rfl fun cdv A outer s H E hr => by
    have tk := takes_of (X := cxOf (L2.CX PR w) PR w K mg base ["beats", "until", "period", "found", "time", "letters", "many", "here"] "next_beat" (defScope s139) (ga K "next_beat") cdv A outer s H E) rfl rfl rfl rfl
    have hp := passes_of (X := cxOf (L2.CX PR w) PR w K mg base ["beats", "until", "period", "found", "time", "letters", "many", "here"] "next_beat" (defScope s139) (ga K "next_beat") cdv A outer s H E) rfl
    have hN := sc139.nd
    show CSs _ _ _ (b139 (runFn T k)) _
    delta b139
    exact css_cons (cs_set 3 (cf_val (ce_non)) hN) (css_cons (cs_for hp rfl (ci_any (ce_var 0)) (cg_of (cgp_tup rfl (cgps_cons (cgp_name 4 hN) (cgps_cons (cgp_name 5 hN) (cgps_nil))))) (css_one (cs_if (ct_val (ce_frz (cf_call h.k73 (hr.mono (by omega)) (F.glo 33) (f73 F).kp (bi73 F) tk (ca_cons (ce_var 4) (ca_cons (ce_var 2) (ca_nil)))))) (css_cons (cs_set 6 (cf_val (ce_frz (cf_call h.k75 (hr.mono (by omega)) (F.glo 34) (f75 F).kp (bi75 F) tk (ca_cons (ce_frz (cf_call h.k72 (hr.mono (by omega)) (F.glo 21) (f72 F).kp (bi72 F) tk (ca_cons (ce_frz (cf_call h.k70 (hr.mono (by omega)) (F.glo 32) (f70 F).kp (bi70 F) tk (ca_cons (ce_var 1) (ca_cons (ce_var 4) (ca_nil))))) (ca_cons (ce_var 2) (ca_nil))))) (ca_nil))))) hN) (css_cons (cs_set 7 (cf_val (ce_frz (cf_call h.k69 (hr.mono (by omega)) (F.glo 31) (f69 F).kp (bi69 F) tk (ca_cons (ce_var 4) (ca_cons (ce_frz (cf_call h.k71 (hr.mono (by omega)) (F.glo 23) (f71 F).kp (bi71 F) tk (ca_cons (ce_var 2) (ca_cons (ce_tup (ca_cons (ce_var 6) (ca_cons (ce_int) (ca_nil)))) (ca_nil))))) (ca_nil)))))) hN) (css_one (cs_if (ct_w (cw_or (ct_cmp op_isN rd_isN (ce_var 3) (ce_non)) (cw_or1 (ct_val (ce_frz (cf_call h.k73 (hr.mono (by omega)) (F.glo 33) (f73 F).kp (bi73 F) tk (ca_cons (ce_var 7) (ca_cons (ce_ixS (ce_var 3) (ce_int)) (ca_nil))))))))) (css_one (cs_set 3 (cf_val (ce_tup (ca_cons (ce_var 7) (ca_cons (ce_var 5) (ca_nil))))) hN)) (css_nil))))) (css_nil)))) (css_one (cs_ret (cf_val (ce_var 3)))))
set_option linter.unusedVariables false in
theorem o105 (F : Fx fa fb ts gs w K mg) {k : Nat} (h : Hy w K mg base k) : FnOk PR w K mg base (L2.CX PR w) (3 * (k + 1)) (ga K "is_time") (fdOf K (ga K "is_time")) ["value"] (spF ⟨PR, w, K, cm K⟩ (runFn T (k + 1) 105)) :=
  ok_def (j := 3 * k + 2) (fn := fn105) (f105 F) sc105 rfl rfl rfl rfl fun cdv A outer s H E hr => by
    have tk := takes_of (X := cxOf (L2.CX PR w) PR w K mg base ["value"] "is_time" (defScope s105) (ga K "is_time") cdv A outer s H E) rfl rfl rfl rfl
    have hp := passes_of (X := cxOf (L2.CX PR w) PR w K mg base ["value"] "is_time" (defScope s105) (ga K "is_time") cdv A outer s H E) rfl
    have hN := sc105.nd
    show CSs _ _ _ (b105 (runFn T k)) _
    delta b105
    exact css_one (cs_ret (cf_val (ce_and (ce_frz (cf_call h.k68 (hr.mono (by omega)) (F.glo 35) (f68 F).kp (bi68 F) tk (ca_cons (ce_var 0) (ca_nil)))) (ce_one (ce_cmp op_gt rd_gt (ce_ixS (ce_var 0) (ce_int)) (ce_int))))))
set_option linter.unusedVariables false in
theorem o108 (F : Fx fa fb ts gs w K mg) {k : Nat} (h : Hy w K mg base k) : FnOk PR w K mg base (L2.CX PR w) (3 * (k + 1)) (ga K "are_beats") (fdOf K (ga K "are_beats")) ["value", "end"] (spF ⟨PR, w, K, cm K⟩ (runFn T (k + 1) 108)) :=
  ok_def (j := 3 * k + 2) (fn := fn108) (f108 F) sc108 rfl rfl rfl rfl fun cdv A outer s H E hr => by
    have tk := takes_of (X := cxOf (L2.CX PR w) PR w K mg base ["value", "end", "beat", "one", "other"] "are_beats" (defScope s108) (ga K "are_beats") cdv A outer s H E) rfl rfl rfl rfl
    have hp := passes_of (X := cxOf (L2.CX PR w) PR w K mg base ["value", "end", "beat", "one", "other"] "are_beats" (defScope s108) (ga K "are_beats") cdv A outer s H E) rfl
    have hN := sc108.nd
    show CSs _ _ _ (b108 (runFn T k)) _
    delta b108
    exact css_cons (cs_if (ct_not (ct_val (ce_callB (cr_all rfl) rd_all rfl (F.free 37) PyProof.Rows.boot_all (ca_cons (ce_frz (cf_lc (own := [("beat", 2)]) rfl hN (ci_any (ce_var 0)) (BlkOk.mk (N := ["value", "end", "beat", "one", "other"]) (sc := defScope s108) rfl (by decide +kernel) (by decide +kernel) (by decide +kernel) (by decide +kernel)) (by decide +kernel) (fun _ _ _ _ _ => cgp_name 2 hN) (fun _ _ _ _ _ => cts_nil) (fun _ _ _ _ _ => ce_frz (cf_call h.k107 (hr.mono (by omega)) (F.glo 36) (f107 F).kp (bi107 F) takes0 (ca_cons (ce_var 2) (ca_nil)))))) (ca_nil))))) (css_one (cs_ret (cf_val (ce_bl)))) (css_nil)) (css_cons (cs_if (ct_not (ct_val (ce_callB (cr_all rfl) rd_all rfl (F.free 37) PyProof.Rows.boot_all (ca_cons (ce_frz (cf_lc (own := [("one", 3), ("other", 4)]) rfl hN (ci_zip (F.free 38) (ce_var 0) (ce_cutS (ce_var 0) (co_some (ce_int)) (co_none))) (BlkOk.mk (N := ["value", "end", "beat", "one", "other"]) (sc := defScope s108) rfl (by decide +kernel) (by decide +kernel) (by decide +kernel) (by decide +kernel)) (by decide +kernel) (fun _ _ _ _ _ => cgp_tup rfl (cgps_cons (cgp_name 3 hN) (cgps_cons (cgp_name 4 hN) (cgps_nil)))) (fun _ _ _ _ _ => cts_nil) (fun _ _ _ _ _ => ce_frz (cf_call h.k73 (hr.mono (by omega)) (F.glo 33) (f73 F).kp (bi73 F) takes0 (ca_cons (ce_ixS (ce_var 3) (ce_int)) (ca_cons (ce_ixS (ce_var 4) (ce_int)) (ca_nil))))))) (ca_nil))))) (css_one (cs_ret (cf_val (ce_bl)))) (css_nil)) (css_one (cs_ret (cf_val (ce_callB (cr_all rfl) rd_all rfl (F.free 37) PyProof.Rows.boot_all (ca_cons (ce_frz (cf_lc (own := [("beat", 2)]) rfl hN (ci_any (ce_var 0)) (BlkOk.mk (N := ["value", "end", "beat", "one", "other"]) (sc := defScope s108) rfl (by decide +kernel) (by decide +kernel) (by decide +kernel) (by decide +kernel)) (by decide +kernel) (fun _ _ _ _ _ => cgp_name 2 hN) (fun _ _ _ _ _ => cts_nil) (fun _ _ _ _ _ => ce_frz (cf_call h.k73 (hr.mono (by omega)) (F.glo 33) (f73 F).kp (bi73 F) takes0 (ca_cons (ce_ixS (ce_var 2) (ce_int)) (ca_cons (ce_var 1) (ca_nil))))))) (ca_nil)))))))
set_option linter.unusedVariables false in
theorem o67 (F : Fx fa fb ts gs w K mg) {k : Nat} (h : Hy w K mg base k) : FnOk PR w K mg base (L2.CX PR w) (3 * (k + 1)) (ga K "fraction") (fdOf K (ga K "fraction")) ["number", "parts"] (spF ⟨PR, w, K, cm K⟩ (runFn T (k + 1) 67)) :=
  ok_def (j := 3 * k + 2) (fn := fn67) (f67 F) sc67 rfl rfl rfl rfl fun cdv A outer s H E hr => by
    have tk := takes_of (X := cxOf (L2.CX PR w) PR w K mg base ["number", "parts", "divisor"] "fraction" (defScope s67) (ga K "fraction") cdv A outer s H E) rfl rfl rfl rfl
    have hp := passes_of (X := cxOf (L2.CX PR w) PR w K mg base ["number", "parts", "divisor"] "fraction" (defScope s67) (ga K "fraction") cdv A outer s H E) rfl
    have hN := sc67.nd
    show CSs _ _ _ (b67 (runFn T k)) _
    delta b67
    exact css_cons (cs_if (ct_cmp op_ltAll rd_lt (ce_var 1) (ce_int)) (css_one ((by first | exact cs_par 0 1 rfl hN (cf_val (ce_un un_neg rd_neg (ce_var 0))) (cf_val (ce_un un_neg rd_neg (ce_var 1))) | exact cs_parT 0 1 rfl hN (cf_val (ce_un un_neg rd_neg (ce_var 0))) (cf_val (ce_un un_neg rd_neg (ce_var 1)))))) (css_nil)) (css_cons (cs_set 2 (cf_val (ce_frz (cf_call h.k65 (hr.mono (by omega)) (F.glo 39) (f65 F).kp (bi65 F) tk (ca_cons (ce_var 0) (ca_cons (ce_var 1) (ca_nil)))))) hN) (css_one (cs_ret (cf_val (ce_tup (ca_cons (ce_op op_fdivW rd_div (ce_var 0) (ce_var 2)) (ca_cons (ce_op op_fdivW rd_div (ce_var 1) (ce_var 2)) (ca_nil))))))))
set_option linter.unusedVariables false in
theorem o69 (F : Fx fa fb ts gs w K mg) {k : Nat} (h : Hy w K mg base k) : FnOk PR w K mg base (L2.CX PR w) (3 * (k + 1)) (ga K "added") (fdOf K (ga K "added")) ["one", "other"] (spF ⟨PR, w, K, cm K⟩ (runFn T (k + 1) 69)) :=
  ok_def (j := 3 * k + 2) (fn := fn69) (f69 F) sc69 rfl rfl rfl rfl fun cdv A outer s H E hr => by
    have tk := takes_of (X := cxOf (L2.CX PR w) PR w K mg base ["one", "other"] "added" (defScope s69) (ga K "added") cdv A outer s H E) rfl rfl rfl rfl
    have hp := passes_of (X := cxOf (L2.CX PR w) PR w K mg base ["one", "other"] "added" (defScope s69) (ga K "added") cdv A outer s H E) rfl
    have hN := sc69.nd
    show CSs _ _ _ (b69 (runFn T k)) _
    delta b69
    exact css_one (cs_ret (cf_call h.k67 (hr.mono (by omega)) (F.glo 30) (f67 F).kp (bi67 F) tk (ca_cons (ce_op op_addAll rd_add (ce_op op_mulAll rd_mul (ce_ixS (ce_var 0) (ce_int)) (ce_ixS (ce_var 1) (ce_int))) (ce_op op_mulAll rd_mul (ce_ixS (ce_var 1) (ce_int)) (ce_ixS (ce_var 0) (ce_int)))) (ca_cons (ce_op op_mulAll rd_mul (ce_ixS (ce_var 0) (ce_int)) (ce_ixS (ce_var 1) (ce_int))) (ca_nil)))))
set_option linter.unusedVariables false in
theorem o70 (F : Fx fa fb ts gs w K mg) {k : Nat} (h : Hy w K mg base k) : FnOk PR w K mg base (L2.CX PR w) (3 * (k + 1)) (ga K "less") (fdOf K (ga K "less")) ["one", "other"] (spF ⟨PR, w, K, cm K⟩ (runFn T (k + 1) 70)) :=
  ok_def (j := 3 * k + 2) (fn := fn70) (f70 F) sc70 rfl rfl rfl rfl fun cdv A outer s H E hr => by
    have tk := takes_of (X := cxOf (L2.CX PR w) PR w K mg base ["one", "other"] "less" (defScope s70) (ga K "less") cdv A outer s H E) rfl rfl rfl rfl
    have hp := passes_of (X := cxOf (L2.CX PR w) PR w K mg base ["one", "other"] "less" (defScope s70) (ga K "less") cdv A outer s H E) rfl
    have hN := sc70.nd
    show CSs _ _ _ (b70 (runFn T k)) _
    delta b70
    exact css_one (cs_ret (cf_call h.k67 (hr.mono (by omega)) (F.glo 30) (f67 F).kp (bi67 F) tk (ca_cons (ce_op op_sub rd_sub (ce_op op_mulAll rd_mul (ce_ixS (ce_var 0) (ce_int)) (ce_ixS (ce_var 1) (ce_int))) (ce_op op_mulAll rd_mul (ce_ixS (ce_var 1) (ce_int)) (ce_ixS (ce_var 0) (ce_int)))) (ca_cons (ce_op op_mulAll rd_mul (ce_ixS (ce_var 0) (ce_int)) (ce_ixS (ce_var 1) (ce_int))) (ca_nil)))))
set_option linter.unusedVariables false in
theorem o73 (F : Fx fa fb ts gs w K mg) {k : Nat} (h : Hy w K mg base k) : FnOk PR w K mg base (L2.CX PR w) (3 * (k + 1)) (ga K "is_less") (fdOf K (ga K "is_less")) ["one", "other"] (spF ⟨PR, w, K, cm K⟩ (runFn T (k + 1) 73)) :=
  ok_def (j := 3 * k + 2) (fn := fn73) (f73 F) sc73 rfl rfl rfl rfl fun cdv A outer s H E hr => by
    have tk := takes_of (X := cxOf (L2.CX PR w) PR w K mg base ["one", "other"] "is_less" (defScope s73) (ga K "is_less") cdv A outer s H E) rfl rfl rfl rfl
    have hp := passes_of (X := cxOf (L2.CX PR w) PR w K mg base ["one", "other"] "is_less" (defScope s73) (ga K "is_less") cdv A outer s H E) rfl
    have hN := sc73.nd
    show CSs _ _ _ (b73 (runFn T k)) _
    delta b73
    exact css_one (cs_ret (cf_val (ce_cmp op_ltAll rd_lt (ce_op op_mulAll rd_mul (ce_ixS (ce_var 0) (ce_int)) (ce_ixS (ce_var 1) (ce_int))) (ce_op op_mulAll rd_mul (ce_ixS (ce_var 1) (ce_int)) (ce_ixS (ce_var 0) (ce_int))))))
set_option linter.unusedVariables false in
theorem o75 (F : Fx fa fb ts gs w K mg) {k : Nat} (h : Hy w K mg base k) : FnOk PR w K mg base (L2.CX PR w) (3 * (k + 1)) (ga K "ceiling") (fdOf K (ga K "ceiling")) ["one"] (spF ⟨PR, w, K, cm K⟩ (runFn T (k + 1) 75)) :=
  ok_def (j := 3 * k + 2) (fn := fn75) (f75 F) sc75 rfl rfl rfl rfl fun cdv A outer s H E hr => by
    have tk := takes_of (X := cxOf (L2.CX PR w) PR w K mg base ["one"] "ceiling" (defScope s75) (ga K "ceiling") cdv A outer s H E) rfl rfl rfl rfl
    have hp := passes_of (X := cxOf (L2.CX PR w) PR w K mg base ["one"] "ceiling" (defScope s75) (ga K "ceiling") cdv A outer s H E) rfl
    have hN := sc75.nd
    show CSs _ _ _ (b75 (runFn T k)) _
    delta b75
    exact css_one (cs_ret (cf_val (ce_un un_neg rd_neg (ce_op op_fdivW rd_div (ce_un un_neg rd_neg (ce_ixS (ce_var 0) (ce_int))) (ce_ixS (ce_var 0) (ce_int))))))
set_option linter.unusedVariables false in
theorem o68 (F : Fx fa fb ts gs w K mg) {k : Nat} (h : Hy w K mg base k) : FnOk PR w K mg base (L2.CX PR w) (3 * (k + 1)) (ga K "is_fraction") (fdOf K (ga K "is_fraction")) ["value"] (spF ⟨PR, w, K, cm K⟩ (runFn T (k + 1) 68)) :=
  ok_def (j := 3 * k + 2) (fn := fn68) (f68 F) sc68 rfl rfl rfl rfl fun cdv A outer s H E hr => by
    have tk := takes_of (X := cxOf (L2.CX PR w) PR w K mg base ["value"] "is_fraction" (defScope s68) (ga K "is_fraction") cdv A outer s H E) rfl rfl rfl rfl
    have hp := passes_of (X := cxOf (L2.CX PR w) PR w K mg base ["value"] "is_fraction" (defScope s68) (ga K "is_fraction") cdv A outer s H E) rfl
    have hN := sc68.nd
    show CSs _ _ _ (b68 (runFn T k)) _
    delta b68
    exact css_cons (cs_if (ct_w (cw_or (ct_not (ct_val (ce_isi rfl (by decide) (F.free 27) (F.free 12) (by decide +kernel) (ce_var 0)))) (cw_or (ct_cmp (op_neD hr.units) rd_ne (ce_lenS (F.free 8) (ce_var 0)) (ce_int)) (cw_or (ct_not (ct_val (ce_frz (cf_call h.k64 (hr.mono (by omega)) (F.glo 40) (f64 F).kp (bi64 F) tk (ca_cons (ce_ixS (ce_var 0) (ce_int)) (ca_nil)))))) (cw_or1 (ct_not (ct_val (ce_frz (cf_call h.k64 (hr.mono (by omega)) (F.glo 40) (f64 F).kp (bi64 F) tk (ca_cons (ce_ixS (ce_var 0) (ce_int)) (ca_nil))))))))))) (css_one (cs_ret (cf_val (ce_bl)))) (css_nil)) (css_one (cs_ret (cf_val (ce_and (ce_cmp op_gt rd_gt (ce_ixS (ce_var 0) (ce_int)) (ce_int)) (ce_one (ce_cmp (op_eqD hr.units) rd_eq (ce_frz (cf_call h.k65 (hr.mono (by omega)) (F.glo 39) (f65 F).kp (bi65 F) tk (ca_cons (ce_ixS (ce_var 0) (ce_int)) (ca_cons (ce_ixS (ce_var 0) (ce_int)) (ca_nil))))) (ce_int)))))))
set_option linter.unusedVariables false in
theorem o107 (F : Fx fa fb ts gs w K mg) {k : Nat} (h : Hy w K mg base k) : FnOk PR w K mg base (L2.CX PR w) (3 * (k + 1)) (ga K "is_beat") (fdOf K (ga K "is_beat")) ["value"] (spF ⟨PR, w, K, cm K⟩ (runFn T (k + 1) 107)) :=
  ok_def (j := 3 * k + 2) (fn := fn107) (f107 F) sc107 rfl rfl rfl rfl fun cdv A outer s H E hr => by
    have tk := takes_of (X := cxOf (L2.CX PR w) PR w K mg base ["value"] "is_beat" (defScope s107) (ga K "is_beat") cdv A outer s H E) rfl rfl rfl rfl
    have hp := passes_of (X := cxOf (L2.CX PR w) PR w K mg base ["value"] "is_beat" (defScope s107) (ga K "is_beat") cdv A outer s H E) rfl
    have hN := sc107.nd
    show CSs _ _ _ (b107 (runFn T k)) _
    delta b107
    exact css_cons (cs_if (ct_w (cw_or (ct_not (ct_val (ce_isi rfl (by decide) (F.free 27) (F.free 12) (by decide +kernel) (ce_var 0)))) (cw_or (ct_cmp (op_neD hr.units) rd_ne (ce_lenS (F.free 8) (ce_var 0)) (ce_int)) (cw_or1 (ct_not (ct_val (ce_frz (cf_call h.k68 (hr.mono (by omega)) (F.glo 35) (f68 F).kp (bi68 F) tk (ca_cons (ce_ixS (ce_var 0) (ce_int)) (ca_nil)))))))))) (css_one (cs_ret (cf_val (ce_bl)))) (css_nil)) (css_one (cs_ret (cf_val (ce_and (ce_cmp op_ge rd_ge (ce_ixS (ce_ixS (ce_var 0) (ce_int)) (ce_int)) (ce_int)) (ce_one (ce_frz (cf_call h.k106 (hr.mono (by omega)) (F.glo 41) (f106 F).kp (bi106 F) tk (ca_cons (ce_ixS (ce_var 0) (ce_int)) (ca_nil)))))))))
set_option linter.unusedVariables false in
theorem o65 (F : Fx fa fb ts gs w K mg) {k : Nat} (h : Hy w K mg base k) : FnOk PR w K mg base (L2.CX PR w) (3 * (k + 1)) (ga K "common") (fdOf K (ga K "common")) ["one", "other"] (spF ⟨PR, w, K, cm K⟩ (runFn T (k + 1) 65)) :=
  ok_def (j := 3 * k + 2) (fn := fn65) (f65 F) sc65 rfl rfl rfl rfl fun cdv A outer s H E hr => by
    have tk := takes_of (X := cxOf (L2.CX PR w) PR w K mg base ["one", "other"] "common" (defScope s65) (ga K "common") cdv A outer s H E) rfl rfl rfl rfl
    have hp := passes_of (X := cxOf (L2.CX PR w) PR w K mg base ["one", "other"] "common" (defScope s65) (ga K "common") cdv A outer s H E) rfl
    have hN := sc65.nd
    show CSs _ _ _ (b65 (runFn T k)) _
    delta b65
    exact css_cons ((by first | exact cs_par 0 1 rfl hN (cf_val (ce_callB call_abs rd_abs rfl (F.free 18) PyProof.Rows.boot_abs (ca_cons (ce_var 0) (ca_nil)))) (cf_val (ce_callB call_abs rd_abs rfl (F.free 18) PyProof.Rows.boot_abs (ca_cons (ce_var 1) (ca_nil)))) | exact cs_parT 0 1 rfl hN (cf_val (ce_callB call_abs rd_abs rfl (F.free 18) PyProof.Rows.boot_abs (ca_cons (ce_var 0) (ca_nil)))) (cf_val (ce_callB call_abs rd_abs rfl (F.free 18) PyProof.Rows.boot_abs (ca_cons (ce_var 1) (ca_nil)))))) (css_cons (cs_while hp (ct_cmp op_gt rd_gt (ce_var 1) (ce_int)) (css_one ((by first | exact cs_par 0 1 rfl hN (cf_val (ce_var 1)) (cf_val (ce_op op_sub rd_sub (ce_var 0) (ce_op op_mulAll rd_mul (ce_op op_fdivW rd_div (ce_var 0) (ce_var 1)) (ce_var 1)))) | exact cs_parT 0 1 rfl hN (cf_val (ce_var 1)) (cf_val (ce_op op_sub rd_sub (ce_var 0) (ce_op op_mulAll rd_mul (ce_op op_fdivW rd_div (ce_var 0) (ce_var 1)) (ce_var 1)))))))) (css_one (cs_ret (cf_val (ce_var 0)))))
set_option linter.unusedVariables false in
theorem o64 (F : Fx fa fb ts gs w K mg) {k : Nat} (h : Hy w K mg base k) : FnOk PR w K mg base (L2.CX PR w) (3 * (k + 1)) (ga K "is_whole") (fdOf K (ga K "is_whole")) ["value"] (spF ⟨PR, w, K, cm K⟩ (runFn T (k + 1) 64)) :=
  ok_def (j := 3 * k + 2) (fn := fn64) (f64 F) sc64 rfl rfl rfl rfl fun cdv A outer s H E hr => by
    have tk := takes_of (X := cxOf (L2.CX PR w) PR w K mg base ["value"] "is_whole" (defScope s64) (ga K "is_whole") cdv A outer s H E) rfl rfl rfl rfl
    have hp := passes_of (X := cxOf (L2.CX PR w) PR w K mg base ["value"] "is_whole" (defScope s64) (ga K "is_whole") cdv A outer s H E) rfl
    have hN := sc64.nd
    show CSs _ _ _ (b64 (runFn T k)) _
    delta b64
    exact css_one (cs_ret (cf_val (ce_and (ce_isi rfl (by decide) (F.free 27) (F.free 17) (by decide +kernel) (ce_var 0)) (ce_one (ce_not (ce_isi rfl (by decide) (F.free 27) (F.free 42) (by decide +kernel) (ce_var 0)))))))
set_option linter.unusedVariables false in
theorem o106 (F : Fx fa fb ts gs w K mg) {k : Nat} (h : Hy w K mg base k) : FnOk PR w K mg base (L2.CX PR w) (3 * (k + 1)) (ga K "are_letters") (fdOf K (ga K "are_letters")) ["value"] (spF ⟨PR, w, K, cm K⟩ (runFn T (k + 1) 106)) :=
  ok_def (j := 3 * k + 2) (fn := fn106) (f106 F) sc106 rfl rfl rfl rfl fun cdv A outer s H E hr => by
    have tk := takes_of (X := cxOf (L2.CX PR w) PR w K mg base ["value", "one", "other", "sign"] "are_letters" (defScope s106) (ga K "are_letters") cdv A outer s H E) rfl rfl rfl rfl
    have hp := passes_of (X := cxOf (L2.CX PR w) PR w K mg base ["value", "one", "other", "sign"] "are_letters" (defScope s106) (ga K "are_letters") cdv A outer s H E) rfl
    have hN := sc106.nd
    show CSs _ _ _ (b106 (runFn T k)) _
    delta b106
    exact css_cons (cs_if (ct_w (cw_or (ct_not (ct_val (ce_isi rfl (by decide) (F.free 27) (F.free 43) (by decide +kernel) (ce_var 0)))) (cw_or (ct_cmp (op_eqD hr.units) rd_eq (ce_var 0) (ce_str (s := []))) (cw_or1 (ct_not (ct_val (ce_callB (cr_all rfl) rd_all rfl (F.free 37) PyProof.Rows.boot_all (ca_cons (ce_frz (cf_lc (own := [("sign", 3)]) rfl hN (ci_any (ce_var 0)) (BlkOk.mk (N := ["value", "one", "other", "sign"]) (sc := defScope s106) rfl (by decide +kernel) (by decide +kernel) (by decide +kernel) (by decide +kernel)) (by decide +kernel) (fun _ _ _ _ _ => cgp_name 3 hN) (fun _ _ _ _ _ => cts_nil) (fun _ _ _ _ _ => ce_cmp op_inAll rd_in (ce_var 3) (ce_gstr (s := [97, 98, 99, 100]) (F.str 44))))) (ca_nil))))))))) (css_one (cs_ret (cf_val (ce_bl)))) (css_nil)) (css_one (cs_ret (cf_val (ce_callB (cr_all rfl) rd_all rfl (F.free 37) PyProof.Rows.boot_all (ca_cons (ce_frz (cf_lc (own := [("one", 1), ("other", 2)]) rfl hN (ci_zipS (F.free 38) (ce_var 0) (ce_cutS (ce_var 0) (co_some (ce_int)) (co_none))) (BlkOk.mk (N := ["value", "one", "other", "sign"]) (sc := defScope s106) rfl (by decide +kernel) (by decide +kernel) (by decide +kernel) (by decide +kernel)) (by decide +kernel) (fun _ _ _ _ _ => cgp_tup rfl (cgps_cons (cgp_name 1 hN) (cgps_cons (cgp_name 2 hN) (cgps_nil)))) (fun _ _ _ _ _ => cts_nil) (fun _ _ _ _ _ => ce_cmp op_ltAll rd_lt (ce_var 1) (ce_var 2)))) (ca_nil))))))
theorem hy_zero : Hy w K mg base 0 := ⟨ok_zero, ok_zero, ok_zero, ok_zero, ok_zero, ok_zero, ok_zero, ok_zero, ok_zero, ok_zero, ok_zero, ok_zero, ok_zero, ok_zero, ok_zero, ok_zero, ok_zero, ok_zero, ok_zero, ok_zero, ok_zero, ok_zero, ok_zero, ok_zero, ok_zero, ok_zero, ok_zero, ok_zero, ok_zero, ok_zero, ok_zero, ok_zero⟩
theorem hy_all (F : Fx fa fb ts gs w K mg) : ∀ k, Hy w K mg base k
  | 0 => hy_zero
  | k + 1 => have h := hy_all F k
    ⟨o0 F h, o184 F h, o162 F h, o163 F h, o183 F h, o161 F h, o186 F h, o185 F h, o164 F h, o1 F h, o138 F h, o140 F h, o2 F h, o3 F h, o136 F h, o74 F h, o72 F h, o71 F h, o137 F h, o139 F h, o105 F h, o108 F h, o67 F h, o69 F h, o70 F h, o73 F h, o75 F h, o68 F h, o107 F h, o65 F h, o64 F h, o106 F h⟩
end
abbrev hk : PySem.W.Hook := hookB 4 fa fb ts gs
def ob (s : PySem.W.SharedT) : AlB := obsB 4 fa fb ts gs (HandSHeadRun.getT s)
theorem ob_eq (s : PySem.W.SharedT) : ob s = hk.obs s.abs := obsB_eq (HandSHeadRun.getT_eq s)
theorem run (w : World) : HandSHeadRun.RunEq RO (PySem.W.view RO.prog [42]) hk ob 20000 loose w := run_parts
  (both_worlds (fun b w => by cases b with | false => exact (qAf w).e1 | true => exact (qAt w).e1) w) (both_worlds (fun b w => by cases b with | false => exact (qAf w).e2 | true => exact (qAt w).e2) w)
  (both_worlds (fun b w => by cases b with | false => exact (qAf w).e3 | true => exact (qAt w).e3) w) (both_worlds (fun b w => by cases b with | false => exact (qAf w).e4 | true => exact (qAt w).e4) w)
open PySem.W PySem.Calls in
theorem holds (hlaw : ∀ ns : List Int, ns.length ≤ 63 → ∃ st, runFn T 70 0 [.scr ns] [] = .ok (.val (.bl true)) st) : PySem.Challenge.rw_beatrounds_k10_whole_heard.Holds := by
  w_on; o_law
  refine HandSHeadRun.head_any (r := OpenLaw.row PySem.Challenge.rw_beatrounds_k10_whole_heard) (q := view (OpenLaw.row PySem.Challenge.rw_beatrounds_k10_whole_heard).prog [42]) (H := hk) (ob := ob) (M := 20000) (loose := loose) (d := HandSHeadRun.topDef (OpenLaw.row PySem.Challenge.rw_beatrounds_k10_whole_heard).prog 42) (kwd := []) ob_eq
    (by kernel_rfl) (fun s => by kernel_rfl) run (by kernel_rfl) (by kernel_rfl) (by kernel_rfl) (by rfl) (by first | assumption | decide +kernel) (by decide +kernel) ⟨rfl, rfl, rfl, rfl, rfl, by decide +kernel⟩ ?hw ?hc
  case hw => w_witness2
  case hc =>
    refine end_walk (l := PySem.Challenge.rw_beatrounds_k10_whole_heard) (n := 63) (k := 210) (x := "_law_script") rfl (by decide) (by kernel_rfl) ⟨rfl, by decide, by decide⟩ ?F
    intro w mg fo h Y G hmg0
    obtain ⟨K, KX, c⟩ := Y
    have F : Fx fa fb ts gs w K mg := ⟨h, KX, G, c⟩
    have hmg : mg ("law" : PySem.Str) = some (.ref fo) := by
      have e : (HandSHeadRun.topDef (OpenLaw.row PySem.Challenge.rw_beatrounds_k10_whole_heard).prog 42).name = ("law" : PySem.Str) := by kernel_rfl
      rw [← e]
      exact hmg0
    have e := hmg.symm.trans (F.glo 45)
    cases e
    have b := FunD.bindsA (ps := ["_law_script"]) (f0 F) fun _ _ _ _ _ _ us hl => match us, hl with | [_], _ => by kernel_rfl
    exact ⟨K, _, _, KX, fun s u => b s [u] rfl, fun H a ns hl hS => sp_top hS (hlaw ns hl), fun base _ _ => (hy_all F 70).k0⟩
end K10
set_option Elab.async false
set_option linter.all false
set_option maxRecDepth 100000
namespace BR
open PySem
section
variable {α β : Type} {ρ : BR.Env} {st : Store}
@[simp] theorem bind_ok (a : α) (f : α → Store → R β) : (R.ok a st).bind f = f a st := rfl
@[simp] theorem bind_ex (c ns vs) (f : α → Store → R β) : (R.ex c ns vs st).bind f = .ex c ns vs st := rfl
@[simp] theorem bindS_ok (a : α) (f : α → Store → SR) : (R.ok a st).bindS ρ f = f a st := rfl
@[simp] theorem bindS_ex (c ns vs) (f : α → Store → SR) : (R.ex c ns vs st).bindS ρ f = .ex c ns vs ρ st := rfl
@[simp] theorem noexY (a : α) : (R.ok a st).noex = .ok a st := rfl
@[simp] theorem ofOpt_some (a : α) : R.ofOpt (some a) st = .ok a st := rfl
def SR.seq (r : SR) (b : SM) : SR := match r with
  | .next ρ st => b ρ st
  | r => r
@[simp] theorem seq_next (b : SM) : SR.seq (.next ρ st) b = b ρ st := rfl
@[simp] theorem seq_ret (v) (b : SM) : SR.seq (.ret v st) b = .ret v st := rfl
@[simp] theorem seq_brk (b : SM) : SR.seq (.brk ρ st) b = .brk ρ st := rfl
@[simp] theorem seq_cnt (b : SM) : SR.seq (.cnt ρ st) b = .cnt ρ st := rfl
@[simp] theorem seq_ex (c ns vs) (b : SM) : SR.seq (.ex c ns vs ρ st) b = .ex c ns vs ρ st := rfl
@[simp] theorem sSeq_ev (a b : SM) : sSeq a b ρ st = (a ρ st).seq b := by unfold sSeq SR.seq; rfl
@[simp] theorem eC_ev (p) : eC p ρ st = .ok p st := rfl
def rdV (o : Option SV) (st : Store) : R PV := match o with
  | some (.val p) => .ok p st
  | _ => .bad
@[simp] theorem rdV_val (p) : rdV (some (.val p)) st = .ok p st := rfl
@[simp] theorem eVar_ev (i) : eVar i ρ st = rdV ρ[i]? st := rfl
def kOpt (f : PV → Option PV) (p : PV) (st : Store) : R PV := R.ofOpt (f p) st
@[simp] theorem kOpt_ev (f p) : kOpt f p st = R.ofOpt (f p) st := rfl
@[simp] theorem eOp1_ev (f m) : eOp1 f m ρ st = (m ρ st).bind (kOpt f) := rfl
def kOp2 (f : PV → PV → Option PV) (n : EM) (ρ : BR.Env) (p : PV) (st : Store) : R PV := (n ρ st).bind (kOpt (f p))
@[simp] theorem kOp2_ev (f n p) : kOp2 f n ρ p st = (n ρ st).bind (kOpt (f p)) := rfl
@[simp] theorem eOp2_ev (f m n) : eOp2 f m n ρ st = (m ρ st).bind (kOp2 f n ρ) := rfl
def kOp3 (f : PV → PV → PV → Option PV) (n l : EM) (ρ : BR.Env) (p : PV) (st : Store) : R PV := (n ρ st).bind (kOp2 (f p) l ρ)
@[simp] theorem kOp3_ev (f n l p) : kOp3 f n l ρ p st = (n ρ st).bind (kOp2 (f p) l ρ) := rfl
@[simp] theorem eOp3_ev (f m n l) : eOp3 f m n l ρ st = (m ρ st).bind (kOp3 f n l ρ) := rfl
@[simp] theorem aNil_ev : aNil ρ st = .ok [] st := rfl
def kCons2 (p : PV) (ps : List PV) (st : Store) : R (List PV) := .ok (p :: ps) st
@[simp] theorem kCons2_ev (p ps) : kCons2 p ps st = .ok (p :: ps) st := rfl
def kCons (r : AM) (ρ : BR.Env) (p : PV) (st : Store) : R (List PV) := (r ρ st).bind (kCons2 p)
@[simp] theorem kCons_ev (r p) : kCons r ρ p st = (r ρ st).bind (kCons2 p) := rfl
@[simp] theorem aCons_ev (m r) : aCons m r ρ st = (m ρ st).bind (kCons r ρ) := rfl
def kOptN (f : List PV → Option PV) (p : List PV) (st : Store) : R PV := R.ofOpt (f p) st
@[simp] theorem kOptN_ev (f p) : kOptN f p st = R.ofOpt (f p) st := rfl
@[simp] theorem eOpN_ev (f m) : eOpN f m ρ st = (m ρ st).bind (kOptN f) := rfl
def tupK (ps : List PV) (st : Store) : R PV := if ps.length ≤ lim then .ok (.tup ps) st else .bad
def lstK (ps : List PV) (st : Store) : R SV := if ps.length ≤ lim then .ok (.own ps) st else .bad
@[simp] theorem tupK0 : tupK [] st = .ok (.tup []) st := rfl
@[simp] theorem lstK0 : lstK [] st = .ok (.own []) st := rfl
@[simp] theorem tupK1 (a) : tupK [a] st = .ok (.tup [a]) st := rfl
@[simp] theorem lstK1 (a) : lstK [a] st = .ok (.own [a]) st := rfl
@[simp] theorem tupK2 (a b) : tupK [a, b] st = .ok (.tup [a, b]) st := rfl
@[simp] theorem lstK2 (a b) : lstK [a, b] st = .ok (.own [a, b]) st := rfl
@[simp] theorem tupK3 (a b c) : tupK [a, b, c] st = .ok (.tup [a, b, c]) st := rfl
@[simp] theorem lstK3 (a b c) : lstK [a, b, c] st = .ok (.own [a, b, c]) st := rfl
@[simp] theorem tupK4 (a b c d) : tupK [a, b, c, d] st = .ok (.tup [a, b, c, d]) st := rfl
@[simp] theorem lstK4 (a b c d) : lstK [a, b, c, d] st = .ok (.own [a, b, c, d]) st := rfl
@[simp] theorem tupK5 (a b c d e) : tupK [a, b, c, d, e] st = .ok (.tup [a, b, c, d, e]) st := rfl
@[simp] theorem lstK5 (a b c d e) : lstK [a, b, c, d, e] st = .ok (.own [a, b, c, d, e]) st := rfl
@[simp] theorem tupK6 (a b c d e f) : tupK [a, b, c, d, e, f] st = .ok (.tup [a, b, c, d, e, f]) st := rfl
@[simp] theorem lstK6 (a b c d e f) : lstK [a, b, c, d, e, f] st = .ok (.own [a, b, c, d, e, f]) st := rfl
@[simp] theorem tupK7 (a b c d e f g) : tupK [a, b, c, d, e, f, g] st = .ok (.tup [a, b, c, d, e, f, g]) st := rfl
@[simp] theorem lstK7 (a b c d e f g) : lstK [a, b, c, d, e, f, g] st = .ok (.own [a, b, c, d, e, f, g]) st := rfl
@[simp] theorem tupK8 (a b c d e f g h) : tupK [a, b, c, d, e, f, g, h] st = .ok (.tup [a, b, c, d, e, f, g, h]) st := rfl
@[simp] theorem lstK8 (a b c d e f g h) : lstK [a, b, c, d, e, f, g, h] st = .ok (.own [a, b, c, d, e, f, g, h]) st := rfl
@[simp] theorem eTup_ev (m) : eTup m ρ st = (m ρ st).bind tupK := rfl
@[simp] theorem fLst_ev (m) : fLst m ρ st = (m ρ st).bind lstK := rfl
@[simp] theorem toPV_val (p) : (SV.val p).toPV = some p := rfl
@[simp] theorem toPV_own (p) : (SV.own p).toPV = some (.lst p) := rfl
def kFrz (v : SV) (st : Store) : R PV := R.ofOpt v.toPV st
@[simp] theorem kFrz_ev (v) : kFrz v st = R.ofOpt v.toPV st := rfl
@[simp] theorem eFrz_ev (m) : eFrz m ρ st = (m ρ st).bind kFrz := rfl
def kVal (v : PV) (st : Store) : R SV := .ok (.val v) st
@[simp] theorem kVal_ev (v) : kVal v st = .ok (.val v) st := rfl
@[simp] theorem fVal_ev (m) : fVal m ρ st = (m ρ st).bind kVal := rfl
@[simp] theorem fCall_ev (call id m) : fCall call id m ρ st = (m ρ st).bind (call id) := rfl
def k_fIf (a b : FM) (ρ : BR.Env) (k : Bool) (st : Store) : R SV := if k then a ρ st else b ρ st
@[simp] theorem k_fIf_t (a b) : k_fIf a b ρ true st = a ρ st := rfl
@[simp] theorem k_fIf_f (a b) : k_fIf a b ρ false st = b ρ st := rfl
@[simp] theorem fIf_ev (c a b) : fIf c a b ρ st = (c ρ st).bind (k_fIf a b ρ) := rfl
def k_eIf (a b : EM) (ρ : BR.Env) (k : Bool) (st : Store) : R PV := if k then a ρ st else b ρ st
@[simp] theorem k_eIf_t (a b) : k_eIf a b ρ true st = a ρ st := rfl
@[simp] theorem k_eIf_f (a b) : k_eIf a b ρ false st = b ρ st := rfl
@[simp] theorem eIf_ev (c a b) : eIf c a b ρ st = (c ρ st).bind (k_eIf a b ρ) := rfl
def tblK (p : PV) (st : Store) : R Bool := match p with
  | .bl b => .ok b st
  | _ => .bad
@[simp] theorem tblK_ev (b) : tblK (.bl b) st = .ok b st := rfl
@[simp] theorem tVal_ev (m) : tVal m ρ st = (m ρ st).bind tblK := rfl
def kNot (k : Bool) (st : Store) : R Bool := .ok (!k) st
@[simp] theorem kNot_ev (k) : kNot k st = .ok (!k) st := rfl
@[simp] theorem tNot_ev (m) : tNot m ρ st = (m ρ st).bind kNot := rfl
def kAnd (b : BM) (ρ : BR.Env) (k : Bool) (st : Store) : R Bool := if k then b ρ st else .ok false st
@[simp] theorem kAnd_t (b) : kAnd b ρ true st = b ρ st := rfl
@[simp] theorem kAnd_f (b) : kAnd b ρ false st = .ok false st := rfl
@[simp] theorem tAnd_ev (a b) : tAnd a b ρ st = (a ρ st).bind (kAnd b ρ) := rfl
def kOr (b : BM) (ρ : BR.Env) (k : Bool) (st : Store) : R Bool := if k then .ok true st else b ρ st
@[simp] theorem kOr_t (b) : kOr b ρ true st = .ok true st := rfl
@[simp] theorem kOr_f (b) : kOr b ρ false st = b ρ st := rfl
@[simp] theorem tOr_ev (a b) : tOr a b ρ st = (a ρ st).bind (kOr b ρ) := rfl
@[simp] theorem pAdd_int (a b : Int) : pAdd (.int a) (.int b) = some (.int (a + b)) := rfl
@[simp] theorem pSub_int (a b : Int) : pSub (.int a) (.int b) = some (.int (a - b)) := rfl
theorem pMul_int {a b : Int} (ha : small a = true) (hb : small b = true) : pMul (.int a) (.int b) = some (.int (a * b)) := by unfold pMul; simp only; rw [ha, hb]; rfl
theorem pDiv_int {a b : Int} (ha : 0 < b) (hb : small b = true) : pDiv (.int a) (.int b) = some (.int (a / b)) := by unfold pDiv; simp only; rw [decide_eq_true ha, hb]; rfl
theorem pMod_int {a b : Int} (ha : 0 < b) : pMod (.int a) (.int b) = some (.int (a % b)) := by unfold pMod; simp only; rw [decide_eq_true ha]; rfl
@[simp] theorem pNeg_int (a : Int) : pNeg (.int a) = some (.int (-a)) := rfl
@[simp] theorem pLt_int (a b : Int) : pLt (.int a) (.int b) = some (.bl (decide (a < b))) := rfl
@[simp] theorem pLe_int (a b : Int) : pLe (.int a) (.int b) = some (.bl (decide (a ≤ b))) := rfl
@[simp] theorem pGt_int (a b : Int) : pGt (.int a) (.int b) = some (.bl (decide (b < a))) := rfl
@[simp] theorem pGe_int (a b : Int) : pGe (.int a) (.int b) = some (.bl (decide (b ≤ a))) := rfl
@[simp] theorem pEq_int (a b : Int) : pEq (.int a) (.int b) = some (.bl (decide (a = b))) := rfl
@[simp] theorem pNe_int (a b : Int) : pNe (.int a) (.int b) = some (.bl (!decide (a = b))) := rfl
@[simp] theorem nInt_int (a : Int) : nInt [.int a] = some (.int a) := rfl
@[simp] theorem nInt_bl (k : Bool) : nInt [.bl k] = some (.int (if k then 1 else 0)) := rfl
@[simp] theorem nLen_tup (xs) : nLen [.tup xs] = some (.int xs.length) := rfl
@[simp] theorem nLen_lst (xs) : nLen [.lst xs] = some (.int xs.length) := rfl
@[simp] theorem nLen_scr (xs) : nLen [.scr xs] = some (.int xs.length) := rfl
@[simp] theorem nTuple_tup (xs) : nTuple [.tup xs] = some (.tup xs) := rfl
@[simp] theorem pIdx_tup (xs i) : pIdx (.tup xs) (.int i) = L2.atI xs i := rfl
@[simp] theorem pIdx_lst (xs i) : pIdx (.lst xs) (.int i) = L2.atI xs i := rfl
@[simp] theorem pIdx_scr (xs i) : pIdx (.scr xs) (.int i) = (L2.atI xs i).map PV.int := rfl
theorem atI_at {xs : List α} {i : Int} (h0 : 0 ≤ i) (h1 : i < xs.length) : L2.atI xs i = xs[i.toNat]? := by
  unfold L2.atI L2.ixN
  rw [if_pos h0, if_pos h1]
  rfl
@[simp] theorem at10 (a : α) : L2.atI [a] 0 = some a := rfl
@[simp] theorem at20 (a b : α) : L2.atI [a, b] 0 = some a := rfl
@[simp] theorem at21 (a b : α) : L2.atI [a, b] 1 = some b := rfl
@[simp] theorem at30 (a b c : α) : L2.atI [a, b, c] 0 = some a := rfl
@[simp] theorem at31 (a b c : α) : L2.atI [a, b, c] 1 = some b := rfl
@[simp] theorem at32 (a b c : α) : L2.atI [a, b, c] 2 = some c := rfl
@[simp] theorem at40 (a b c d : α) : L2.atI [a, b, c, d] 0 = some a := rfl
@[simp] theorem at41 (a b c d : α) : L2.atI [a, b, c, d] 1 = some b := rfl
@[simp] theorem at42 (a b c d : α) : L2.atI [a, b, c, d] 2 = some c := rfl
@[simp] theorem at43 (a b c d : α) : L2.atI [a, b, c, d] 3 = some d := rfl
@[simp] theorem at50 (a b c d e : α) : L2.atI [a, b, c, d, e] 0 = some a := rfl
@[simp] theorem at51 (a b c d e : α) : L2.atI [a, b, c, d, e] 1 = some b := rfl
@[simp] theorem at52 (a b c d e : α) : L2.atI [a, b, c, d, e] 2 = some c := rfl
@[simp] theorem at53 (a b c d e : α) : L2.atI [a, b, c, d, e] 3 = some d := rfl
@[simp] theorem at54 (a b c d e : α) : L2.atI [a, b, c, d, e] 4 = some e := rfl
@[simp] theorem sNil_ev : sNil ρ st = .next ρ st := rfl
def kIfS (a b : SM) (ρ : BR.Env) (k : Bool) (st : Store) : SR := if k then a ρ st else b ρ st
@[simp] theorem kIfS_t (a b) : kIfS a b ρ true st = a ρ st := rfl
@[simp] theorem kIfS_f (a b) : kIfS a b ρ false st = b ρ st := rfl
@[simp] theorem sIf_ev (c a b) : sIf c a b ρ st = (c ρ st).bindS ρ (kIfS a b ρ) := rfl
def kSet (i : Nat) (ρ : BR.Env) (v : SV) (st : Store) : SR := .next (ρ.set i v) st
@[simp] theorem kSet_ev (i v) : kSet i ρ v st = .next (ρ.set i v) st := rfl
@[simp] theorem sSet_ev (i m) : sSet i m ρ st = (m ρ st).bindS ρ (kSet i ρ) := rfl
def kRet (v : SV) (st : Store) : SR := .ret v st
@[simp] theorem kRet_ev (v) : kRet v st = .ret v st := rfl
@[simp] theorem sRet_ev (m) : sRet m ρ st = (m ρ st).bindS ρ kRet := rfl
@[simp] theorem sRetN_ev : sRetN ρ st = .ret (.val .non) st := rfl
def retK (o : Option SV) (st : Store) : SR := match o with
  | some (.val p) => .ret (.val p) st
  | some (.own xs) => .ret (.own xs) st
  | _ => .bad
@[simp] theorem retK_val (p) : retK (some (.val p)) st = .ret (.val p) st := rfl
@[simp] theorem retK_own (p) : retK (some (.own p)) st = .ret (.own p) st := rfl
@[simp] theorem sRetV_ev (i) : sRetV i ρ st = retK ρ[i]? st := by unfold sRetV retK; rfl
def kDrop (ρ : BR.Env) (p : PV) (st : Store) : SR := .next ρ st
@[simp] theorem kDrop_ev (p) : kDrop ρ p st = .next ρ st := rfl
@[simp] theorem sDrop_ev (m) : sDrop m ρ st = (m ρ st).bindS ρ (kDrop ρ) := rfl
def asgK (o : Option (BR.Env × Store)) : SR := match o with
  | some (ρ2, st2) => .next ρ2 st2
  | none => .bad
@[simp] theorem asgK_some : asgK (some (ρ, st)) = .next ρ st := rfl
def kAsg (g : GM) (ρ : BR.Env) (p : PV) (st : Store) : SR := asgK (g p ρ st)
@[simp] theorem kAsg_ev (g p) : kAsg g ρ p st = asgK (g p ρ st) := rfl
@[simp] theorem sAsg_ev (m g) : sAsg m g ρ st = (m ρ st).bindS ρ (kAsg g ρ) := rfl
def kPar2 (i j : Nat) (v : SV) (ρ : BR.Env) (u : SV) (st : Store) : SR := .next ((ρ.set i v).set j u) st
@[simp] theorem kPar2_ev (i j v u) : kPar2 i j v ρ u st = .next ((ρ.set i v).set j u) st := rfl
def kPar (i j : Nat) (b : FM) (ρ : BR.Env) (v : SV) (st : Store) : SR := (b ρ st).bindS ρ (kPar2 i j v ρ)
@[simp] theorem kPar_ev (i j b v) : kPar i j b ρ v st = (b ρ st).bindS ρ (kPar2 i j v ρ) := rfl
@[simp] theorem sPar_ev (i j a b) : sPar i j a b ρ st = (a ρ st).bindS ρ (kPar i j b ρ) := rfl
@[simp] theorem gName_ev (i p) : gName i p ρ st = some (ρ.set i (.val p), st) := rfl
@[simp] theorem gTup_tup (gs ps) : gTup gs (.tup ps) ρ st = gEach gs ps ρ st := rfl
@[simp] theorem gTup_wt (gs ps) : gTup gs (.wt ps) ρ st = gEach gs ps ρ st := rfl
@[simp] theorem gTup_lst (gs ps) : gTup gs (.lst ps) ρ st = gEach gs ps ρ st := rfl
@[simp] theorem gEach_nil : gEach [] [] ρ st = some (ρ, st) := rfl
def kEach (gs : List GM) (ps : List PV) (z : BR.Env × Store) : Option (BR.Env × Store) := gEach gs ps z.1 z.2
@[simp] theorem kEach_ev (gs ps) : kEach gs ps (ρ, st) = gEach gs ps ρ st := rfl
@[simp] theorem gEach_cons (g gs p ps) : gEach (g :: gs) (p :: ps) ρ st = (g p ρ st).bind (kEach gs ps) := rfl
def kApp (i : Nat) (xs : List PV) (ρ : BR.Env) (p : PV) (st : Store) : SR := if xs.length < lim then .next (ρ.set i (.own (xs ++ [p]))) st else .bad
theorem kApp_ev {i : Nat} {xs : List PV} {p : PV} (h : xs.length < lim) : kApp i xs ρ p st = .next (ρ.set i (.own (xs ++ [p]))) st := if_pos h
@[simp] theorem kApp0 (i p) : kApp i [] ρ p st = .next (ρ.set i (.own [p])) st := rfl
def appK (i : Nat) (o : Option SV) (m : EM) (ρ : BR.Env) (st : Store) : SR := match o with
  | some (.own xs) => (m ρ st).bindS ρ (kApp i xs ρ)
  | _ => .bad
@[simp] theorem appK_own (i xs m) : appK i (some (.own xs)) m ρ st = (m ρ st).bindS ρ (kApp i xs ρ) := rfl
@[simp] theorem sApp_ev (i m) : sApp i m ρ st = appK i ρ[i]? m ρ st := by unfold sApp appK; rfl
def frzK (i : Nat) (o : Option SV) (ρ : BR.Env) (st : Store) : SR := match o with
  | some (.own xs) => .next (ρ.set i (.val (.lst xs))) st
  | _ => .bad
@[simp] theorem frzK_own (i xs) : frzK i (some (.own xs)) ρ st = .next (ρ.set i (.val (.lst xs))) st := rfl
@[simp] theorem sFrz_ev (i) : sFrz i ρ st = frzK i ρ[i]? ρ st := by unfold sFrz frzK; rfl
def lstO (o : Option SO) : Option (List PV) := match o with
  | some (.lst xs) => some xs
  | _ => none
@[simp] theorem lstO_lst (xs) : lstO (some (.lst xs)) = some xs := rfl
@[simp] theorem lstAt_ref (i) : lstAt (.ref i) st = lstO st[i]? := rfl
def kOptS (f : PV → Store → Option PV) (p : PV) (st : Store) : R PV := R.ofOpt (f p st) st
@[simp] theorem kOptS_ev (f p) : kOptS f p st = R.ofOpt (f p st) st := rfl
@[simp] theorem eOp1S_ev (f m) : eOp1S f m ρ st = (m ρ st).bind (kOptS f) := rfl
def kOp2S (f : PV → PV → Store → Option PV) (n : EM) (ρ : BR.Env) (p : PV) (st : Store) : R PV := (n ρ st).bind (kOptS (f p))
@[simp] theorem kOp2S_ev (f n p) : kOp2S f n ρ p st = (n ρ st).bind (kOptS (f p)) := rfl
@[simp] theorem eOp2S_ev (f m n) : eOp2S f m n ρ st = (m ρ st).bind (kOp2S f n ρ) := rfl
def kIdx (q : PV) (xs : List PV) : Option PV := pIdx (.lst xs) q
@[simp] theorem kIdx_ev (xs q) : kIdx q xs = pIdx (.lst xs) q := rfl
@[simp] theorem pIdxS_ref (i q) : pIdxS (.ref i) q st = (lstO st[i]?).bind (kIdx q) := rfl
@[simp] theorem pIdxS_tup (xs q) : pIdxS (.tup xs) q st = pIdx (.tup xs) q := rfl
@[simp] theorem pIdxS_lst (xs q) : pIdxS (.lst xs) q st = pIdx (.lst xs) q := rfl
@[simp] theorem pIdxS_scr (xs q) : pIdxS (.scr xs) q st = pIdx (.scr xs) q := rfl
@[simp] theorem pIdxS_str (xs q) : pIdxS (.str xs) q st = pIdx (.str xs) q := rfl
def kLen (xs : List PV) : PV := .int xs.length
@[simp] theorem kLen_ev (xs) : kLen xs = .int xs.length := rfl
@[simp] theorem nLenS_ref (i) : nLenS (.ref i) st = (lstO st[i]?).map kLen := rfl
@[simp] theorem nLenS_tup (xs) : nLenS (.tup xs) st = some (.int xs.length) := rfl
@[simp] theorem nLenS_lst (xs) : nLenS (.lst xs) st = some (.int xs.length) := rfl
@[simp] theorem nLenS_scr (xs) : nLenS (.scr xs) st = some (.int xs.length) := rfl
def nlK (v : SV) (st : Store) : R PV := match v with
  | .own xs => .ok (.ref st.length) (st ++ [.lst xs])
  | _ => .bad
@[simp] theorem nlK_own (xs) : nlK (.own xs) st = .ok (.ref st.length) (st ++ [.lst xs]) := rfl
@[simp] theorem eNewL_ev (m) : eNewL m ρ st = (m ρ st).bind nlK := rfl
def sixP (ρ : BR.Env) (i : Nat) (st : Store) (p : PV) (xs : List PV) (o : Option Nat) : SR := match o with
  | some n => .next ρ (st.set i (.lst (xs.set n p)))
  | none => .bad
@[simp] theorem sixP_some (i n p xs) : sixP ρ i st p xs (some n) = .next ρ (st.set i (.lst (xs.set n p))) := rfl
def sixO (ρ : BR.Env) (i : Nat) (st : Store) (p : PV) (z : Int) (o : Option (List PV)) : SR := match o with
  | some xs => sixP ρ i st p xs (L2.ixN xs.length z)
  | none => .bad
@[simp] theorem sixO_some (i p z xs) : sixO ρ i st p z (some xs) = sixP ρ i st p xs (L2.ixN xs.length z) := rfl
def six (p r : PV) (ρ : BR.Env) (q : PV) (st : Store) : SR := match lstAt r st, q with
  | some xs, .int z => (match L2.ixN xs.length z with
    | some n => (match putL st r (xs.set n p) with
      | some st4 => .next ρ st4
      | none => .bad)
    | none => .bad)
  | _, _ => .bad
@[simp] theorem six_ref (p i z) : six p (.ref i) ρ (.int z) st = sixO ρ i st p z (lstO st[i]?) := by
  unfold six
  rw [lstAt_ref]
  cases lstO st[i]? with
  | none => rfl
  | some xs =>
    simp only [sixO_some]
    cases L2.ixN xs.length z <;> rfl
def kSix2 (p : PV) (k : EM) (ρ : BR.Env) (r : PV) (st : Store) : SR := (k ρ st).bindS ρ (six p r ρ)
@[simp] theorem kSix2_ev (p k r) : kSix2 p k ρ r st = (k ρ st).bindS ρ (six p r ρ) := rfl
def kSix1 (o k : EM) (ρ : BR.Env) (p : PV) (st : Store) : SR := (o ρ st).bindS ρ (kSix2 p k ρ)
@[simp] theorem kSix1_ev (p k o) : kSix1 o k ρ p st = (o ρ st).bindS ρ (kSix2 p k ρ) := rfl
@[simp] theorem sSetIxL_ev (o m k) : sSetIxL o m k ρ st = (m ρ st).bindS ρ (kSix1 o k ρ) := rfl
@[simp] theorem ix40 : L2.ixN 4 0 = some 0 := rfl
@[simp] theorem ix41 : L2.ixN 4 1 = some 1 := rfl
@[simp] theorem ix42 : L2.ixN 4 2 = some 2 := rfl
@[simp] theorem ix43 : L2.ixN 4 3 = some 3 := rfl
def insO (cl : Nat) (o : Option SO) : Option (List Str × List PV) := match o with
  | some (.ins c ns vs) => if c = cl then some (ns, vs) else none
  | _ => none
@[simp] theorem insO_ins (cl ns vs) : insO cl (some (.ins cl ns vs)) = some (ns, vs) := if_pos rfl
@[simp] theorem insOf_ref (cl i) : insOf cl (.ref i) st = insO cl st[i]? := by unfold insOf insO; rfl
@[simp] theorem insOf_ins (cl ns vs) : insOf cl (.ins cl ns vs) st = some (ns, vs) := if_pos rfl
def attrO (f : Str) (o : Option (List Str × List PV)) (st : Store) : R PV := match o with
  | some (ns, vs) => R.ofOpt (look2 ns vs f) st
  | none => .bad
@[simp] theorem attrO_some (f ns vs) : attrO f (some (ns, vs)) st = R.ofOpt (look2 ns vs f) st := rfl
def kAttr (cl : Nat) (f : Str) (p : PV) (st : Store) : R PV := attrO f (insOf cl p st) st
@[simp] theorem kAttr_ev (cl f p) : kAttr cl f p st = attrO f (insOf cl p st) st := rfl
@[simp] theorem eAttr_ev (cl f m) : eAttr cl f m ρ st = (m ρ st).bind (kAttr cl f) := rfl
def kMethA (call : CallT) (id : Nat) (p : PV) (ps : List PV) (st : Store) : R SV := call id (p :: ps) st
@[simp] theorem kMethA_ev (call id p ps) : kMethA call id p ps st = call id (p :: ps) st := rfl
def methP (call : CallT) (id : Nat) (p : PV) (ar : AM) (ρ : BR.Env) (st : Store) (o : Option PV) : R SV := match o with
    | none => (ar ρ st).bind (kMethA call id p)
    | some _ => .bad
@[simp] theorem methP_none (call id p ar) : methP call id p ar ρ st none = (ar ρ st).bind (kMethA call id p) := rfl
def methO (call : CallT) (id : Nat) (f : Str) (p : PV) (ar : AM) (ρ : BR.Env) (st : Store) (o : Option (List Str × List PV)) : R SV := match o with
  | some (ns, vs) => methP call id p ar ρ st (look2 ns vs f)
  | none => .bad
@[simp] theorem methO_some (call id f p ar ns vs) : methO call id f p ar ρ st (some (ns, vs)) = methP call id p ar ρ st (look2 ns vs f) := rfl
def kMeth (call : CallT) (id cl : Nat) (f : Str) (ar : AM) (ρ : BR.Env) (p : PV) (st : Store) : R SV := methO call id f p ar ρ st (insOf cl p st)
@[simp] theorem kMeth_ev (call id cl f ar p) : kMeth call id cl f ar ρ p st = methO call id f p ar ρ st (insOf cl p st) := rfl
@[simp] theorem fMeth_ev (call id cl f o ar) : fMeth call id cl f o ar ρ st = (o ρ st).bind (kMeth call id cl f ar ρ) := by
  unfold fMeth kMeth methO methP kMethA
  rfl
@[simp] theorem look2_nil (vs f) : look2 [] vs f = none := by unfold look2; rfl
@[simp] theorem look2_cons (n ns v vs f) : look2 (n :: ns) (v :: vs) f = if n = f then some v else look2 ns vs f := by conv => lhs; unfold look2
def makeK (rf : Bool) (v : SV) (st : Store) : R SV := match v with
  | .ins c ns vs => if rf then .ok (.val (.ref st.length)) (st ++ [.ins c ns vs]) else .ok (.val (.ins c ns vs)) st
  | _ => .bad
@[simp] theorem makeK_ref (c ns vs) : makeK true (.ins c ns vs) st = .ok (.val (.ref st.length)) (st ++ [.ins c ns vs]) := rfl
@[simp] theorem makeK_ins (c ns vs) : makeK false (.ins c ns vs) st = .ok (.val (.ins c ns vs)) st := rfl
def kMake (call : CallT) (id : Nat) (rf : Bool) (ps : List PV) (st : Store) : R SV := (call id ps st).bind (makeK rf)
@[simp] theorem kMake_ev (call id rf ps) : kMake call id rf ps st = (call id ps st).bind (makeK rf) := rfl
@[simp] theorem fMake_ev (call id rf ar) : fMake call id rf ar ρ st = (ar ρ st).bind (kMake call id rf) := rfl
def aplO (i : Nat) (p : PV) (ρ : BR.Env) (st : Store) (o : Option (List PV)) : SR := match o with
  | some xs => if xs.length < lim then .next ρ (st.set i (.lst (xs ++ [p]))) else .bad
  | none => .bad
@[simp] theorem aplO1 (i p a) : aplO i p ρ st (some [a]) = .next ρ (st.set i (.lst [a, p])) := rfl
def kApl2 (i : Nat) (ρ : BR.Env) (p : PV) (st : Store) : SR := aplO i p ρ st (lstO st[i]?)
@[simp] theorem kApl2_ev (i p) : kApl2 i ρ p st = aplO i p ρ st (lstO st[i]?) := rfl
def aplQ (m : EM) (i : Nat) (ρ : BR.Env) (st : Store) (o : Option (List PV)) : SR := match o with
  | some xs => (m ρ st).bindS ρ (kApl2 i ρ)
  | none => .bad
@[simp] theorem aplQ_some (m i xs) : aplQ m i ρ st (some xs) = (m ρ st).bindS ρ (kApl2 i ρ) := rfl
def kApl (m : EM) (ρ : BR.Env) (r : PV) (st : Store) : SR := if (lstAt r st).isSome then (m ρ st).bindS ρ fun p st2 => (match lstAt r st2 with
  | some xs => if xs.length < lim then (match putL st2 r (xs ++ [p]) with
    | some st3 => .next ρ st3
    | none => .bad) else .bad
  | none => .bad) else .bad
@[simp] theorem kApl_ref (m i) : kApl m ρ (.ref i) st = aplQ m i ρ st (lstO st[i]?) := by
  unfold kApl
  rw [lstAt_ref]
  cases lstO st[i]? with
  | none => rfl
  | some xs =>
    rw [aplQ_some]
    refine (if_pos rfl).trans ?_
    congr 1
@[simp] theorem sAppL_ev (o m) : sAppL o m ρ st = (o ρ st).bindS ρ (kApl m ρ) := rfl
def kFor (g : GM) (b : SM) (ρ : BR.Env) (xs : List PV) (st : Store) : SR := forGo g b xs ρ st
@[simp] theorem kFor_ev (g b xs) : kFor g b ρ xs st = forGo g b xs ρ st := rfl
@[simp] theorem sFor_ev (m g b) : sFor m g b ρ st = (m ρ st).bindS ρ (kFor g b ρ) := rfl
def kLs (f : PV → Option (List PV)) (p : PV) (st : Store) : R (List PV) := R.ofOpt (f p) st
@[simp] theorem kLs_ev (f p) : kLs f p st = R.ofOpt (f p) st := rfl
def kLs2 (f : PV → PV → Option (List PV)) (n : EM) (ρ : BR.Env) (p : PV) (st : Store) : R (List PV) := (n ρ st).bind (kLs (f p))
@[simp] theorem kLs2_ev (f n p) : kLs2 f n ρ p st = (n ρ st).bind (kLs (f p)) := rfl
@[simp] theorem wRng1_ev (m) : wRng1 m ρ st = (m ρ st).bind (kLs rng1) := rfl
@[simp] theorem wRng2_ev (m n) : wRng2 m n ρ st = (m ρ st).bind (kLs2 rng2 n ρ) := rfl
@[simp] theorem wZip_ev (m n) : wZip m n ρ st = (m ρ st).bind (kLs2 zipOf n ρ) := rfl
@[simp] theorem wItems_ev (m) : wItems m ρ st = (m ρ st).bind (kLs itemsOf) := rfl
@[simp] theorem itemsOf_tup (xs) : itemsOf (.tup xs) = some xs := rfl
@[simp] theorem itemsOf_lst (xs) : itemsOf (.lst xs) = some xs := rfl
@[simp] theorem forGo_nil (g b) : forGo g b [] ρ st = .next ρ st := rfl
def SR.loop (r : SR) (k : SM) : SR := match r with
  | .next ρ st => k ρ st
  | .cnt ρ st => k ρ st
  | .brk ρ st => .next ρ st
  | r => r
@[simp] theorem loop_next (k : SM) : SR.loop (.next ρ st) k = k ρ st := rfl
@[simp] theorem loop_cnt (k : SM) : SR.loop (.cnt ρ st) k = k ρ st := rfl
@[simp] theorem loop_brk (k : SM) : SR.loop (.brk ρ st) k = .next ρ st := rfl
@[simp] theorem loop_ret (v) (k : SM) : SR.loop (.ret v st) k = .ret v st := rfl
@[simp] theorem loop_ex (c ns vs) (k : SM) : SR.loop (.ex c ns vs ρ st) k = .ex c ns vs ρ st := rfl
theorem forGo_cons {g : GM} {b : SM} {x : PV} {xs : List PV} {ρ1 : BR.Env} {st1 : Store} (h : g x ρ st = some (ρ1, st1)) : forGo g b (x :: xs) ρ st = (b ρ1 st1).loop (forGo g b xs) := by
  conv => lhs; unfold forGo
  rw [h]
  simp only
  cases b ρ1 st1 <;> rfl
def SR.tryK (r : SR) (hs : List ((Nat → Option Bool) × SM)) : SR := match r with
  | .ex cl ns vs ρ1 st1 => handleGo hs cl ns vs ρ1 st1
  | r => r
@[simp] theorem sTry_ev (b hs) : sTry b hs ρ st = (b ρ st).tryK hs := by unfold sTry SR.tryK; rfl
@[simp] theorem tryK_next (hs) : SR.tryK (.next ρ st) hs = .next ρ st := rfl
@[simp] theorem tryK_ret (v hs) : SR.tryK (.ret v st) hs = .ret v st := rfl
@[simp] theorem tryK_ex (c ns vs hs) : SR.tryK (.ex c ns vs ρ st) hs = handleGo hs c ns vs ρ st := rfl
@[simp] theorem sRaise0_ev (cl) : sRaise0 cl ρ st = .ex cl [] [] ρ st := rfl
@[simp] theorem finish_next : BR.finish (.next ρ st) = .ok (.val .non) st := rfl
@[simp] theorem finish_ret (v) : BR.finish (.ret v st) = .ok v st := rfl
@[simp] theorem finish_ex (c ns vs) : BR.finish (.ex c ns vs ρ st) = .ex c ns vs st := rfl
theorem run_fn {T : Nat → Option Fn} {k id : Nat} {args : List PV} {ps n : Nat} {body : CallT → SM} (h : T id = some ⟨ps, n, none, body⟩) (ha : args.length = ps) :
    runFn T (k + 1) id args st = BR.finish (body (runFn T k) (args.map .val ++ List.replicate (n - ps) .un) st) := by
  conv => lhs; unfold runFn
  rw [h]
  simp only
  rw [if_pos ha]
  rfl
theorem small_of {a : Int} (h0 : 0 ≤ a) (h1 : a < 2 ^ 62) : small a = true := by
  refine decide_eq_true ?_
  have : a.natAbs < 2 ^ 62 := by omega
  exact Nat.lt_of_lt_of_le (PySem.Flt.log2_lt_of (by decide) this) (by decide)
end
end BR
set_option Elab.async false
set_option linter.all false
set_option maxRecDepth 100000
set_option maxHeartbeats 4000000
namespace BP
open BR PySem
/-- a law's table bears these of the package's defs -/
def Has (T : Nat → Option Fn) (S : List Nat) : Prop := ∀ i ∈ S, T i = PT i
theorem Has.sub {T : Nat → Option Fn} {S R : List Nat} (h : Has T S) (hs : ∀ i ∈ R, i ∈ S := by decide) : Has T R := fun i hi => h i (hs i hi)
theorem Has.at {T : Nat → Option Fn} {S : List Nat} (h : Has T S) (i : Nat) (hs : i ∈ S := by decide) : T i = PT i := h i hs
theorem Has.nil {T : Nat → Option Fn} : Has T [] := fun _ h => by cases h
theorem Has.cons {T : Nat → Option Fn} {i : Nat} {S : List Nat} (h : T i = PT i) (r : Has T S) : Has T (i :: S) := fun j hj => by
  cases hj with
  | head => exact h
  | tail _ q => exact r j q
theorem run_at {T : Nat → Option Fn} {k id : Nat} {args : List PV} {ps n : Nat} {body : CallT → SM} {st : Store} (h : T id = some ⟨ps, n, none, body⟩) (hk : 0 < k) (ha : args.length = ps := by rfl) :
    runFn T k id args st = BR.finish (body (runFn T (k - 1)) (args.map .val ++ List.replicate (n - ps) .un) st) := by
  obtain ⟨m, rfl⟩ : ∃ m, k = m + 1 := ⟨k - 1, by omega⟩
  exact run_fn h ha
theorem fuel_ge : 2 ^ 9000 ≤ fuel := by
  unfold fuel
  exact Nat.pow_le_pow_right (by decide) (by decide)
theorem small_iff {a : Int} : small a = true ↔ a.natAbs.log2 < 9000 := by unfold small; exact decide_eq_true_iff
theorem small_nat {a : Int} (h : a.natAbs < 2 ^ 9000) : small a = true := small_iff.mpr (PySem.Flt.log2_lt_of (by decide) h)
theorem whileGo_succ (c : BM) (b : SM) (n : Nat) (ρ : BR.Env) (st : Store) : whileGo c b (n + 1) ρ st = (c ρ st).bindS ρ fun k st1 => if k then (b ρ st1).loop (whileGo c b n) else .next ρ st1 := by
  conv => lhs; unfold whileGo
  congr 1
section
variable {T : Nat → Option Fn} {k : Nat} {st : Store}
theorem gcd_turn {c : BM} {b : SM} (hc : ∀ (x y : Nat), c [.val (.int x), .val (.int y)] st = .ok (decide (0 < y)) st)
    (hb : ∀ (x y : Nat), 0 < y → x < 2 ^ 9000 → y < 2 ^ 9000 → b [.val (.int x), .val (.int y)] st = .next [.val (.int y), .val (.int ((x % y : Nat) : Int))] st) :
    ∀ (n : Nat) (x y : Nat), y < n → x < 2 ^ 9000 → y < 2 ^ 9000 → whileGo c b n [.val (.int x), .val (.int y)] st = .next [.val (.int (Nat.gcd x y)), .val (.int 0)] st
  | 0, _, _, h, _, _ => absurd h (Nat.not_lt_zero _)
  | n + 1, x, y, h, h1, h2 => by
    rw [whileGo_succ, hc, bindS_ok]
    by_cases hy : 0 < y
    · have lt : x % y < y := Nat.mod_lt _ hy
      rw [decide_eq_true hy, if_pos rfl, hb x y hy h1 h2, loop_next, gcd_turn hc hb n y (x % y) (by omega) h2 (Nat.lt_trans lt h2), Nat.gcd_comm y, ← Nat.gcd_rec, Nat.gcd_comm]
    · have e : y = 0 := by omega
      subst e
      rw [decide_eq_false hy, if_neg Bool.false_ne_true, Nat.gcd_zero_right]
      rfl
theorem nAbs_int (a : Int) : nAbs [.int a] = some (.int a.natAbs) := by
  unfold nAbs
  simp only [Option.some.injEq, PV.int.injEq]
  omega
theorem common_ok (h : Has T [65]) (hk : 0 < k) {a b : Int} (ha : a.natAbs < 2 ^ 9000) (hb : b.natAbs < 2 ^ 9000) : runFn T k 65 [.int a, .int b] st = .ok (.val (.int (Int.gcd a b))) st := by
  rw [run_at (h.at 65) hk]
  unfold b65
  have e := gcd_turn (st := st) (c := tVal (eOp2 pGt (eVar 1) (eC (.int 0)))) (b := sPar 0 1 (fVal (eVar 1)) (fVal (eOp2 pSub (eVar 0) (eOp2 pMul (eOp2 pDiv (eVar 0) (eVar 1)) (eVar 1)))))
    (fun x y => by simp) (fun x y hy h1 h2 => by
      have sy : small (y : Int) = true := small_nat (by simpa using h2)
      have h0 : (0 : Int) < y := by omega
      have sx : small ((x : Int) / y) = true := small_nat (Nat.lt_of_le_of_lt (by rw [← Int.natCast_ediv, Int.natAbs_natCast]; exact Nat.div_le_self _ _) h1)
      have em : (x : Int) - x / y * y = ((x % y : Nat) : Int) := by rw [Int.natCast_emod, Int.emod_def, Int.mul_comm]
      simp [pDiv_int h0 sy, pMul_int sx sy, em]) fuel a.natAbs b.natAbs (Nat.lt_of_lt_of_le hb fuel_ge) ha hb
  simp [nAbs_int, sWhile, e]
  rfl
def fr (q : Rat) : PV := .tup [.int q.num, .int q.den]
theorem fr_div {n p : Int} (hp : 0 < p) : fr (Rat.divInt n p) = .tup [.int (n / (Int.gcd n p : Nat)), .int (p / (Int.gcd n p : Nat))] := by
  unfold fr
  rw [Rat.num_divInt, Rat.den_divInt, if_neg (by omega), Int.sign_eq_one_of_pos hp, Int.one_mul, Int.gcd_comm p n, Int.natCast_ediv, Int.natAbs_of_nonneg (by omega)]
theorem fr_neg {n p : Int} : fr (Rat.divInt (-n) (-p)) = fr (Rat.divInt n p) := by rw [Rat.neg_divInt_neg]
theorem gcd_le {n p : Int} (hp : 0 < p) : 0 < (Int.gcd n p : Int) ∧ (Int.gcd n p : Int) ≤ p := by
  have h0 : 0 < Int.gcd n p := Int.gcd_pos_of_ne_zero_right n (by omega)
  have h1 : (Int.gcd n p : Int) ≤ p := Int.le_of_dvd hp (Int.gcd_dvd_right n p)
  omega
theorem frac_core {call : CallT} {n p : Int} (hp : 0 < p) (hp2 : p.natAbs < 2 ^ 9000) (e : call 65 [.int n, .int p] st = .ok (.val (.int (Int.gcd n p))) st) :
    (sSeq (sSet 2 (fVal (eFrz (fCall call 65 (aCons (eVar 0) (aCons (eVar 1) (aNil))))))) (sRet (fVal (eTup (aCons (eOp2 pDiv (eVar 0) (eVar 2)) (aCons (eOp2 pDiv (eVar 1) (eVar 2)) (aNil))))))) [.val (.int n), .val (.int p), .un] st = .ret (.val (fr (Rat.divInt n p))) st := by
  have g := gcd_le (n := n) hp
  have sg : small (Int.gcd n p : Int) = true := small_nat (Nat.lt_of_le_of_lt (by omega) hp2)
  simp [e, pDiv_int g.1 sg, fr_div hp]
theorem fraction_ok (h : Has T [65, 67]) (hk : 1 < k) {n p : Int} (hp : p ≠ 0) (hn : n.natAbs < 2 ^ 9000) (hp2 : p.natAbs < 2 ^ 9000) : runFn T k 67 [.int n, .int p] st = .ok (.val (fr (Rat.divInt n p))) st := by
  rw [run_at (h.at 67) (by omega)]
  unfold b67
  rw [sSeq_ev]
  by_cases hs : p < 0
  · have e : sIf (tVal (eOp2 pLt (eVar 1) (eC (.int 0)))) (sPar 0 1 (fVal (eOp1 pNeg (eVar 0))) (fVal (eOp1 pNeg (eVar 1)))) sNil ([PV.int n, .int p].map SV.val ++ List.replicate (3 - 2) SV.un) st = .next [.val (.int (-n)), .val (.int (-p)), .un] st := by simp [hs]
    rw [e, seq_next, frac_core (by omega) (by omega) (common_ok h.sub (by omega) (by omega) (by omega)), fr_neg]
    rfl
  · have e : sIf (tVal (eOp2 pLt (eVar 1) (eC (.int 0)))) (sPar 0 1 (fVal (eOp1 pNeg (eVar 0))) (fVal (eOp1 pNeg (eVar 1)))) sNil ([PV.int n, .int p].map SV.val ++ List.replicate (3 - 2) SV.un) st = .next [.val (.int n), .val (.int p), .un] st := by simp [hs]
    rw [e, seq_next, frac_core (by omega) hp2 (common_ok h.sub (by omega) hn hp2)]
    rfl
/-- below 2 ^ n, above and below -/
def Fit (n : Nat) (q : Rat) : Prop := q.num.natAbs < 2 ^ n ∧ q.den < 2 ^ n
theorem Fit.mono {m n : Nat} {q : Rat} (h : Fit m q) (l : m ≤ n) : Fit n q := ⟨Nat.lt_of_lt_of_le h.1 (Nat.pow_le_pow_right (by decide) l), Nat.lt_of_lt_of_le h.2 (Nat.pow_le_pow_right (by decide) l)⟩
theorem lt_mul {a b m n : Nat} (h : a < 2 ^ m) (h2 : b < 2 ^ n) : a * b < 2 ^ (m + n) := by
  rw [Nat.pow_add]
  exact Nat.mul_lt_mul'' h h2
theorem fit_div {n : Nat} {a b : Int} (ha : a.natAbs < 2 ^ n) (hb : b.natAbs < 2 ^ n) (hz : b ≠ 0) : Fit n (Rat.divInt a b) := by
  refine ⟨?_, ?_⟩
  · rw [Rat.num_divInt]
    refine Nat.lt_of_le_of_lt ?_ ha
    refine Nat.le_trans (Int.natAbs_ediv_le_natAbs _ _) ?_
    rw [Int.natAbs_mul, Int.natAbs_sign_of_ne_zero hz, Nat.one_mul]
    exact Nat.le_refl _
  · rw [Rat.den_divInt, if_neg hz]
    exact Nat.lt_of_le_of_lt (Nat.div_le_self _ _) hb
theorem fit_mk {n : Nat} {a : Int} {d : Nat} (ha : a.natAbs < 2 ^ n) (hb : d < 2 ^ n) (hz : d ≠ 0) : Fit n (mkRat a d) := by
  rw [← Rat.divInt_ofNat]
  exact fit_div ha (by simpa using hb) (by simpa using hz)
theorem nz2 (a b : Rat) : a.den * b.den ≠ 0 := Nat.mul_ne_zero a.den_nz b.den_nz
theorem fit_add {m n : Nat} {a b : Rat} (ha : Fit m a) (hb : Fit n b) : Fit (m + n + 1) (a + b) := by
  rw [Rat.add_def']
  refine fit_mk ?_ ?_ (nz2 a b)
  · have h1 := lt_mul ha.1 hb.2
    have h2 := lt_mul hb.1 ha.2
    rw [Nat.add_comm n m] at h2
    have : (a.num * b.den + b.num * a.den).natAbs ≤ a.num.natAbs * b.den + b.num.natAbs * a.den := by
      refine Nat.le_trans (Int.natAbs_add_le _ _) ?_
      rw [Int.natAbs_mul, Int.natAbs_mul, Int.natAbs_natCast, Int.natAbs_natCast]
      exact Nat.le_refl _
    rw [Nat.pow_succ]
    omega
  · have := lt_mul ha.2 hb.2
    rw [Nat.pow_succ]
    omega
theorem fit_mul {m n : Nat} {a b : Rat} (ha : Fit m a) (hb : Fit n b) : Fit (m + n) (a * b) := by
  rw [Rat.mul_def']
  exact fit_mk (by rw [Int.natAbs_mul]; exact lt_mul ha.1 hb.1) (lt_mul ha.2 hb.2) (nz2 a b)
theorem over_eq {a b : Rat} : a / b = Rat.divInt (a.num * b.den) (a.den * b.num) := by
  rw [Rat.div_def, Rat.inv_def]
  conv => lhs; rw [← Rat.num_divInt_den a]
  rw [Rat.divInt_mul_divInt]
theorem num_nz {b : Rat} (hb : b ≠ 0) : b.num ≠ 0 := fun e => hb (Rat.num_eq_zero.mp e)
theorem par_nz {a b : Rat} (hb : b ≠ 0) : (a.den : Int) * b.num ≠ 0 := Int.mul_ne_zero (by have := a.den_nz; omega) (num_nz hb)
theorem fit_over {m n : Nat} {a b : Rat} (ha : Fit m a) (hb : Fit n b) (hz : b ≠ 0) : Fit (m + n) (a / b) := by
  rw [over_eq]
  refine fit_div ?_ ?_ (par_nz hz)
  · rw [Int.natAbs_mul, Int.natAbs_natCast]
    exact lt_mul ha.1 hb.2
  · rw [Int.natAbs_mul, Int.natAbs_natCast]
    exact lt_mul ha.2 hb.1
theorem Fit.sn {n : Nat} {q : Rat} (h : Fit n q) (l : n ≤ 9000) : small q.num = true := small_nat (h.mono l).1
theorem Fit.sd {n : Nat} {q : Rat} (h : Fit n q) (l : n ≤ 9000) : small (q.den : Int) = true := small_nat (by simpa using (h.mono l).2)
@[simp] theorem fr_at0 (q : Rat) : pIdxS (fr q) (.int 0) st = some (.int q.num) := rfl
@[simp] theorem fr_at1 (q : Rat) : pIdxS (fr q) (.int 1) st = some (.int q.den) := rfl
theorem den_pos' (q : Rat) : (0 : Int) < q.den := by have := q.den_pos; omega
variable {a b : Rat}
theorem added_ok (h : Has T [65, 67, 69]) (hk : 2 < k) (ha : Fit 4000 a) (hb : Fit 4000 b) : runFn T k 69 [fr a, fr b] st = .ok (.val (fr (a + b))) st := by
  rw [run_at (h.at 69) (by omega)]
  have f := fit_add ha hb
  have e := fraction_ok (k := k - 1) (st := st) h.sub (by omega) (n := a.num * b.den + b.num * a.den) (p := a.den * b.den) (by have := nz2 a b; exact_mod_cast this)
    (by
      have h1 := lt_mul ha.1 hb.2
      have h2 := lt_mul hb.1 ha.2
      have : (a.num * b.den + b.num * a.den).natAbs ≤ a.num.natAbs * b.den + b.num.natAbs * a.den := by
        refine Nat.le_trans (Int.natAbs_add_le _ _) ?_
        rw [Int.natAbs_mul, Int.natAbs_mul, Int.natAbs_natCast, Int.natAbs_natCast]
        exact Nat.le_refl _
      have : 2 ^ (4000 + 4000) + 2 ^ (4000 + 4000) ≤ 2 ^ 9000 := by decide +kernel
      omega)
    (by
      rw [← Int.natCast_mul, Int.natAbs_natCast]
      exact Nat.lt_of_lt_of_le (lt_mul ha.2 hb.2) (by decide +kernel))
  rw [← Int.natCast_mul, Rat.divInt_ofNat, ← Rat.add_def', Int.natCast_mul] at e
  unfold b69
  simp [e, pMul_int (ha.sn (by decide)) (hb.sd (by decide)), pMul_int (hb.sn (by decide)) (ha.sd (by decide)), pMul_int (ha.sd (by decide)) (hb.sd (by decide))]
theorem less_ok (h : Has T [65, 67, 70]) (hk : 2 < k) (ha : Fit 4000 a) (hb : Fit 4000 b) : runFn T k 70 [fr a, fr b] st = .ok (.val (fr (a - b))) st := by
  rw [run_at (h.at 70) (by omega)]
  have e := fraction_ok (k := k - 1) (st := st) h.sub (by omega) (n := a.num * b.den - b.num * a.den) (p := a.den * b.den) (by have := nz2 a b; exact_mod_cast this)
    (by
      have h1 := lt_mul ha.1 hb.2
      have h2 := lt_mul hb.1 ha.2
      have : (a.num * b.den - b.num * a.den).natAbs ≤ a.num.natAbs * b.den + b.num.natAbs * a.den := by
        refine Nat.le_trans (Int.natAbs_sub_le _ _) ?_
        rw [Int.natAbs_mul, Int.natAbs_mul, Int.natAbs_natCast, Int.natAbs_natCast]
        exact Nat.le_refl _
      have : 2 ^ (4000 + 4000) + 2 ^ (4000 + 4000) ≤ 2 ^ 9000 := by decide +kernel
      omega)
    (by
      rw [← Int.natCast_mul, Int.natAbs_natCast]
      exact Nat.lt_of_lt_of_le (lt_mul ha.2 hb.2) (by decide +kernel))
  rw [← Int.natCast_mul, Rat.divInt_ofNat, ← Rat.sub_def', Int.natCast_mul] at e
  unfold b70
  simp [e, pMul_int (ha.sn (by decide)) (hb.sd (by decide)), pMul_int (hb.sn (by decide)) (ha.sd (by decide)), pMul_int (ha.sd (by decide)) (hb.sd (by decide))]
theorem product_ok (h : Has T [65, 67, 71]) (hk : 2 < k) (ha : Fit 4000 a) (hb : Fit 4000 b) : runFn T k 71 [fr a, fr b] st = .ok (.val (fr (a * b))) st := by
  rw [run_at (h.at 71) (by omega)]
  have e := fraction_ok (k := k - 1) (st := st) h.sub (by omega) (n := a.num * b.num) (p := a.den * b.den) (by have := nz2 a b; exact_mod_cast this)
    (by rw [Int.natAbs_mul]; exact Nat.lt_of_lt_of_le (lt_mul ha.1 hb.1) (by decide +kernel))
    (by
      rw [← Int.natCast_mul, Int.natAbs_natCast]
      exact Nat.lt_of_lt_of_le (lt_mul ha.2 hb.2) (by decide +kernel))
  rw [← Int.natCast_mul, Rat.divInt_ofNat, ← Rat.mul_def', Int.natCast_mul] at e
  unfold b71
  simp [e, pMul_int (ha.sn (by decide)) (hb.sn (by decide)), pMul_int (ha.sd (by decide)) (hb.sd (by decide))]
theorem over_ok (h : Has T [65, 67, 72]) (hk : 2 < k) (ha : Fit 4000 a) (hb : Fit 4000 b) (hz : b ≠ 0) : runFn T k 72 [fr a, fr b] st = .ok (.val (fr (a / b))) st := by
  rw [run_at (h.at 72) (by omega)]
  have e := fraction_ok (k := k - 1) (st := st) h.sub (by omega) (n := a.num * b.den) (p := a.den * b.num) (par_nz hz)
    (by rw [Int.natAbs_mul, Int.natAbs_natCast]; exact Nat.lt_of_lt_of_le (lt_mul ha.1 hb.2) (by decide +kernel))
    (by rw [Int.natAbs_mul, Int.natAbs_natCast]; exact Nat.lt_of_lt_of_le (lt_mul ha.2 hb.1) (by decide +kernel))
  rw [← over_eq] at e
  unfold b72
  simp [e, pMul_int (ha.sn (by decide)) (hb.sd (by decide)), pMul_int (ha.sd (by decide)) (hb.sn (by decide))]
theorem is_less_ok (h : Has T [73]) (hk : 0 < k) (ha : Fit 9000 a) (hb : Fit 9000 b) : runFn T k 73 [fr a, fr b] st = .ok (.val (.bl (decide (a < b)))) st := by
  rw [run_at (h.at 73) (by omega)]
  unfold b73
  simp [Rat.lt_iff, pMul_int (ha.sn (by decide)) (hb.sd (by decide)), pMul_int (hb.sn (by decide)) (ha.sd (by decide))]
theorem floor_ok (h : Has T [74]) (hk : 0 < k) (ha : Fit 9000 a) : runFn T k 74 [fr a] st = .ok (.val (.int a.floor)) st := by
  rw [run_at (h.at 74) (by omega)]
  unfold b74
  simp [Rat.floor_def, pDiv_int (den_pos' a) (ha.sd (by decide))]
theorem ceiling_ok (h : Has T [75]) (hk : 0 < k) (ha : Fit 9000 a) : runFn T k 75 [fr a] st = .ok (.val (.int a.ceil)) st := by
  rw [run_at (h.at 75) (by omega)]
  unfold b75
  simp [Rat.ceil_eq_neg_floor_neg, Rat.floor_def, pDiv_int (den_pos' a) (ha.sd (by decide))]
end
end BP
set_option Elab.async false
set_option linter.all false
set_option maxRecDepth 100000
set_option maxHeartbeats 4000000
namespace BP
open BR PySem
section
variable {α β σ : Type} {T : Nat → Option Fn} {k : Nat} {st : Store} {ρ : BR.Env}
/-- a comprehension that leaves the store alone -/
theorem lcGo_of {g : GM} {t : BM} {e : EM} (b : α → PV) (p : α → Bool) (f : α → PV) : ∀ (ys : List α) (acc : List PV), acc.length + ys.length ≤ lim →
    (∀ y ∈ ys, ∃ ρ1, g (b y) ρ st = some (ρ1, st) ∧ t ρ1 st = .ok (p y) st ∧ (p y = true → e ρ1 st = .ok (f y) st)) →
    lcGo g t e ρ (ys.map b) acc st = .ok (acc ++ (ys.filter p).map f) st
  | [], acc, _, _ => by simp [lcGo]
  | y :: ys, acc, hl, h => by
    obtain ⟨ρ1, h1, h2, h3⟩ := h y List.mem_cons_self
    rw [List.length_cons] at hl
    have rest := fun acc hl => lcGo_of b p f ys acc hl fun z hz => h z (List.mem_cons_of_mem _ hz)
    rw [List.map_cons]
    unfold lcGo
    rw [h1]
    simp only
    rw [h2, noexY, bind_ok]
    cases hp : p y with
    | false =>
      rw [if_neg Bool.false_ne_true, rest acc (by omega), List.filter_cons_of_neg (by rw [hp]; exact Bool.false_ne_true)]
    | true =>
      rw [if_pos rfl, h3 hp, noexY, bind_ok, if_pos (by omega), rest (acc ++ [f y]) (by rw [List.length_append, List.length_singleton]; omega), List.filter_cons_of_pos hp, List.map_cons, List.append_assoc, List.singleton_append]
theorem fLc_of {w : AM} {own : List Nat} {g : GM} {t : BM} {e : EM} (b : α → PV) (p : α → Bool) (f : α → PV) (ys : List α) (hw : w ρ st = .ok (ys.map b) st) (hl : ys.length ≤ lim)
    (h : ∀ y ∈ ys, ∃ ρ1, g (b y) (wipeE ρ own) st = some (ρ1, st) ∧ t ρ1 st = .ok (p y) st ∧ (p y = true → e ρ1 st = .ok (f y) st)) : fLc w own g t e ρ st = .ok (.own ((ys.filter p).map f)) st := by
  unfold fLc
  rw [hw, bind_ok, lcGo_of b p f ys [] (by simpa using hl) h, bind_ok, List.nil_append]
theorem fLc_map {w : AM} {own : List Nat} {g : GM} {e : EM} (b : α → PV) (f : α → PV) (ys : List α) (hw : w ρ st = .ok (ys.map b) st) (hl : ys.length ≤ lim)
    (h : ∀ y ∈ ys, ∃ ρ1, g (b y) (wipeE ρ own) st = some (ρ1, st) ∧ e ρ1 st = .ok (f y) st) : fLc w own g tYes e ρ st = .ok (.own (ys.map f)) st := by
  rw [fLc_of b (fun _ => true) f ys hw hl fun y hy => ?_]
  · rw [List.filter_eq_self.mpr (fun _ _ => rfl)]
  · obtain ⟨ρ1, h1, h2⟩ := h y hy
    exact ⟨ρ1, h1, rfl, fun _ => h2⟩
/-- a loop that steps a state on -/
theorem forGo_rel {g : GM} {body : SM} (b : α → PV) (Q : σ → BR.Env → Prop) (step : σ → α → σ) : ∀ (ys : List α) (s : σ) (ρ : BR.Env), Q s ρ →
    (∀ s ρ y, y ∈ ys → Q s ρ → ∃ ρ1 ρ2, g (b y) ρ st = some (ρ1, st) ∧ (body ρ1 st = .next ρ2 st ∨ body ρ1 st = .cnt ρ2 st) ∧ Q (step s y) ρ2) →
    ∃ ρ', forGo g body (ys.map b) ρ st = .next ρ' st ∧ Q (ys.foldl step s) ρ'
  | [], s, ρ, q, _ => ⟨ρ, rfl, q⟩
  | y :: ys, s, ρ, q, h => by
    obtain ⟨ρ1, ρ2, h1, h2, h3⟩ := h s ρ y List.mem_cons_self q
    obtain ⟨ρ', e, q'⟩ := forGo_rel b Q step ys (step s y) ρ2 h3 fun s ρ z hz => h s ρ z (List.mem_cons_of_mem _ hz)
    refine ⟨ρ', ?_, q'⟩
    rw [List.map_cons, forGo_cons h1]
    rcases h2 with h2 | h2
    · rw [h2, loop_next, e]
    · rw [h2, loop_cnt, e]
abbrev Beat := Rat × List Nat
def bt (x : Beat) : PV := .tup [fr x.1, .str x.2]
theorem part_mul {P : Nat} {q : Rat} (h : q.den ∣ P) : (q.den : Int) * ((P : Int) / q.den) = P := Int.mul_ediv_cancel' (by exact_mod_cast h)
theorem row_back {P : Nat} {x : Rat} (hP : 0 < P) (hx : x.den ∣ P) : Rat.divInt (x.num * ((P : Int) / x.den)) P = x := by
  have ex := part_mul hx
  have hc : (P : Int) / x.den ≠ 0 := fun e => by rw [e, Int.mul_zero] at ex; omega
  conv => lhs; rw [← ex]
  rw [show (x.den : Int) * ((P : Int) / x.den) / x.den = (P : Int) / x.den from by rw [ex]]
  rw [Rat.divInt_mul_right hc, Rat.num_divInt_den]
end
end BP
set_option Elab.async false
set_option linter.all false
set_option maxRecDepth 100000
set_option maxHeartbeats 4000000
namespace BP
open BR PySem
theorem fr_int (n : Int) : PV.tup [.int n, .int 1] = fr (n : Rat) := rfl
theorem fit_int {n : Int} {m : Nat} (h : n.natAbs < 2 ^ m) (hm : 0 < m) : Fit m (n : Rat) := ⟨h, Nat.one_lt_two_pow (by omega)⟩
theorem fit_floor {q : Rat} {m : Nat} (h : Fit m q) : q.floor.natAbs < 2 ^ m := by
  rw [Rat.floor_def]
  exact Nat.lt_of_le_of_lt (Int.natAbs_ediv_le_natAbs _ _) h.1
theorem fit_zero {m : Nat} (hm : 0 < m) : Fit m 0 := ⟨Nat.two_pow_pos m, Nat.one_lt_two_pow (by omega)⟩
theorem eqv_fr (a b : Rat) : eqv (fr a) (fr b) = decide (a = b) := by
  show (decide (a.num = b.num) && (decide ((a.den : Int) = b.den) && true)) = decide (a = b)
  rw [Bool.and_true, ← Bool.decide_and]
  exact decide_eq_decide.mpr ⟨fun ⟨h1, h2⟩ => Rat.ext h1 (by exact_mod_cast h2), fun h => by rw [h]; exact ⟨rfl, rfl⟩⟩
theorem kok_fr (a : Rat) : kok (fr a) = true := rfl
section
variable {T : Nat → Option Fn} {k : Nat} {st : Store}
/-- a Rhythm: its period, its beats -/
def rhy (p : Rat) (bs : List Beat) : PV := .ins 0 ["size", "row", "letters_at"] [fr p, .tup (bs.map bt), .dct (bs.map fun b => fr b.1) (bs.map fun b => .str b.2)]
@[simp] theorem rhy_ins (p bs) : insOf 0 (rhy p bs) st = some ((["size", "row", "letters_at"] : List Str), [fr p, .tup (bs.map bt), .dct (bs.map fun b => fr b.1) (bs.map fun b => .str b.2)]) := rfl
def rbey (t p : Rat) : Rat := t - p * (t / p).floor
/-- the letters at a time ahead of the period -/
def look (bs : List Beat) (t : Rat) : List Nat := ((bs.find? fun b => decide (b.1 = t)).map (·.2)).getD []
theorem dGet_bt (bs : List Beat) (t : Rat) : (dGet (fr t) (bs.map fun b => fr b.1) (bs.map fun b => .str b.2)).getD (.str []) = .str (look bs t) := by
  induction bs with
  | nil => rfl
  | cons b bs ih =>
    rw [List.map_cons, List.map_cons]
    unfold dGet look
    rw [eqv_fr, List.find?_cons]
    cases e : decide (b.1 = t) with
    | true => rfl
    | false =>
      rw [if_neg Bool.false_ne_true, ih]
      rfl
def nums (lo : Int) (n : Nat) : List Int := (List.range n).map fun t : Nat => lo + (t : Int)
theorem upInts_nums : ∀ (n : Nat) (lo : Int), upInts lo n = (nums lo n).map PV.int
  | 0, _ => rfl
  | n + 1, lo => by
    unfold upInts
    rw [upInts_nums n (lo + 1)]
    unfold nums
    rw [List.range_succ_eq_map]
    simp only [List.map_cons, List.map_map]
    congr 1
    · simp
    · apply List.map_congr_left
      intro a _
      simp only [Function.comp_apply, PV.int.injEq]
      omega
theorem mem_nums {lo : Int} {n : Nat} {x : Int} (h : x ∈ nums lo n) : lo ≤ x ∧ x < lo + n := by
  obtain ⟨t, ht, rfl⟩ := List.mem_map.mp h
  have := List.mem_range.mp ht
  omega
theorem rng2_nums {i j : Int} (hi : -(2 ^ 62) ≤ i ∧ i < 2 ^ 62) (hj : -(2 ^ 62) ≤ j ∧ j < 2 ^ 62) : rng2 (.int i) (.int j) = some ((nums i (j - i).toNat).map PV.int) := by
  unfold rng2
  simp only
  rw [upInts_nums]
theorem rng2_any {i j : Int} : rng2 (.int i) (.int j) = some ((nums i (j - i).toNat).map PV.int) := by
  unfold rng2
  simp only
  rw [upInts_nums]
theorem forGo_pre {α : Type} {g : GM} {body : SM} (b : α → PV) (ys : List α) (Q : List α → BR.Env → Prop)
    (h : ∀ pre y post ρ, ys = pre ++ y :: post → Q pre ρ → ∃ ρ1 ρ2, g (b y) ρ st = some (ρ1, st) ∧ (body ρ1 st = .next ρ2 st ∨ body ρ1 st = .cnt ρ2 st) ∧ Q (pre ++ [y]) ρ2) {ρ : BR.Env} (q : Q [] ρ) :
    ∃ ρ', forGo g body (ys.map b) ρ st = .next ρ' st ∧ Q ys ρ' := by
  suffices ∀ (post pre : List α) (ρ : BR.Env), ys = pre ++ post → Q pre ρ → ∃ ρ', forGo g body (post.map b) ρ st = .next ρ' st ∧ Q ys ρ' from this ys [] ρ rfl q
  intro post
  induction post with
  | nil =>
    intro pre ρ e q
    rw [List.append_nil] at e
    exact ⟨ρ, rfl, by rw [e]; exact q⟩
  | cons y post ih =>
    intro pre ρ e q
    obtain ⟨ρ1, ρ2, h1, h2, h3⟩ := h pre y post ρ e q
    obtain ⟨ρ', e', q'⟩ := ih (pre ++ [y]) ρ2 (by rw [e, List.append_assoc]; rfl) h3
    refine ⟨ρ', ?_, q'⟩
    rw [List.map_cons, forGo_cons h1]
    rcases h2 with h2 | h2
    · rw [h2, loop_next, e']
    · rw [h2, loop_cnt, e']
/-- the beats of one turn within a stretch -/
def hits (p : Rat) (bs : List Beat) (s e : Rat) (t : Int) : List Beat := (bs.map fun b => (p * t + b.1, b.2)).filter fun x => !decide (x.1 < s) && decide (x.1 < e)
def betw (p : Rat) (bs : List Beat) (s e : Rat) : List Beat := (nums (s / p).floor ((e / p).ceil - (s / p).floor).toNat).flatMap (hits p bs s e)
end
end BP
set_option Elab.async false
set_option linter.all false
set_option maxRecDepth 100000
set_option maxHeartbeats 4000000
namespace BP
open BR PySem
section
variable {T : Nat → Option Fn} {k : Nat} {st : Store} {ρ : BR.Env}
theorem eqv_bt (x y : Beat) : eqv (bt x) (bt y) = decide (x = y) := by
  show (eqv (fr x.1) (fr y.1) && (decide (x.2 = y.2) && true)) = decide (x = y)
  rw [eqv_fr, Bool.and_true, ← Bool.decide_and]
  exact decide_eq_decide.mpr ⟨fun ⟨h1, h2⟩ => Prod.ext h1 h2, fun h => by rw [h]; exact ⟨rfl, rfl⟩⟩
/-- each once, the first of the alike -/
def uniq (xs : List Beat) : List Beat := xs.foldl (fun acc x => if x ∈ acc then acc else acc ++ [x]) []
def kListD (p : PV) (st : Store) : R SV := match p with
  | .dct ks _ => .ok (.own ks) st
  | _ => .bad
@[simp] theorem kListD_ev (ks vs) : kListD (.dct ks vs) st = .ok (.own ks) st := rfl
@[simp] theorem fListD_ev (m) : fListD m ρ st = (m ρ st).bind kListD := rfl
def Txt (s : List Nat) : Prop := s.all (fun c => decide (c < 1114112)) = true
def mrg (acc : List Beat) (x : Beat) : List Beat := match acc.getLast? with
  | some l => if l.1 = x.1 then acc.dropLast ++ [(x.1, l.2 ++ x.2)] else acc ++ [x]
  | none => acc ++ [x]
theorem mrg_last (acc : List Beat) (l x : Beat) : mrg (acc ++ [l]) x = if l.1 = x.1 then acc ++ [(x.1, l.2 ++ x.2)] else acc ++ [l] ++ [x] := by
  unfold mrg
  rw [List.getLast?_concat]
  simp only [List.dropLast_concat]
/-- how long the texts are together -/
def txLen (xs : List Beat) : Nat := (xs.map fun x => x.2.length).sum
/-- what beats_of's loop keeps -/
structure MrgOk (pre acc : List Beat) : Prop where
  len : acc.length ≤ pre.length
  txt : ∀ x ∈ acc, Txt x.2
  tx : txLen acc ≤ txLen pre
theorem Txt.app {a b : List Nat} (ha : Txt a) (hb : Txt b) : Txt (a ++ b) := by
  unfold Txt at *
  rw [List.all_append, ha, hb]
  rfl
theorem txLen_app (a b : List Beat) : txLen (a ++ b) = txLen a + txLen b := by
  unfold txLen
  rw [List.map_append, List.sum_append]
theorem MrgOk.step {pre acc : List Beat} {x : Beat} (h : MrgOk pre acc) (hx : Txt x.2) : MrgOk (pre ++ [x]) (mrg acc x) := by
  have hp : txLen (pre ++ [x]) = txLen pre + x.2.length := by rw [txLen_app]; unfold txLen; simp
  rcases List.eq_nil_or_concat acc with rfl | ⟨a, l, rfl⟩
  · refine ⟨by rw [List.length_append]; show 1 ≤ _; simp, fun y hy => ?_, by rw [hp]; show txLen [x] ≤ _; unfold txLen; simp⟩
    rw [List.mem_singleton.mp hy]
    exact hx
  · rw [List.concat_eq_append] at h ⊢
    have hl := h.txt l (by simp)
    have ht : txLen (a ++ [l]) = txLen a + l.2.length := by rw [txLen_app]; unfold txLen; simp
    have hlen := h.len
    have htx := h.tx
    rw [List.length_append, List.length_singleton] at hlen
    rw [mrg_last]
    split
    · refine ⟨by simp only [List.length_append, List.length_singleton]; omega, fun y hy => ?_, ?_⟩
      · rcases List.mem_append.mp hy with q | q
        · exact h.txt y (by simp [q])
        · rw [List.mem_singleton.mp q]
          exact hl.app hx
      · have : txLen (a ++ [(x.1, l.2 ++ x.2)]) = txLen a + (l.2.length + x.2.length) := by rw [txLen_app]; unfold txLen; simp
        omega
    · refine ⟨by simp only [List.length_append, List.length_singleton]; omega, fun y hy => ?_, ?_⟩
      · rcases List.mem_append.mp hy with q | q
        · exact h.txt y q
        · rw [List.mem_singleton.mp q]
          exact hx
      · rw [txLen_app]
        have : txLen [x] = x.2.length := by unfold txLen; simp
        omega
end
end BP
set_option Elab.async false
set_option linter.all false
set_option maxRecDepth 100000
set_option maxHeartbeats 4000000
namespace BP
open BR PySem
section
variable {T : Nat → Option Fn} {k : Nat} {st : Store} {ρ : BR.Env} {α : Type}
theorem bls_map (p : α → Bool) : ∀ l : List α, bls? (l.map fun x => .bl (p x)) = some (l.map p)
  | [] => rfl
  | x :: l => by
    rw [List.map_cons]
    unfold bls?
    rw [bls_map p l]
    rfl
theorem nAll_map (p : α → Bool) (l : List α) : nAll [.lst (l.map fun x => .bl (p x))] = some (.bl (l.all p)) := by
  unfold nAll
  simp only
  rw [bls_map, Option.map_some, List.all_map]
  rfl
def kAndE (b : EM) (ρ : BR.Env) (p : PV) (st : Store) : R PV := match p with
  | .bl true => b ρ st
  | .bl false => .ok (.bl false) st
  | _ => .bad
@[simp] theorem kAndE_t (b) : kAndE b ρ (.bl true) st = b ρ st := rfl
@[simp] theorem kAndE_f (b) : kAndE b ρ (.bl false) st = .ok (.bl false) st := rfl
@[simp] theorem eAnd_ev (a b) : eAnd a b ρ st = (a ρ st).bind (kAndE b ρ) := rfl
def kNotE (p : PV) (st : Store) : R PV := match p with
  | .bl b => .ok (.bl (!b)) st
  | _ => .bad
@[simp] theorem kNotE_ev (b) : kNotE (.bl b) st = .ok (.bl (!b)) st := rfl
@[simp] theorem eNot_ev (a) : eNot a ρ st = (a ρ st).bind kNotE := rfl
theorem is_whole_ok (h : Has T [64]) (hk : 0 < k) (i : Int) : runFn T k 64 [.int i] st = .ok (.val (.bl true)) st := by
  rw [run_at (h.at 64) (by omega)]
  unfold b64
  have e1 : pIsI ["int"] (.int i) = some (.bl true) := by kernel_rfl
  have e2 : pIsI ["bool"] (.int i) = some (.bl false) := by kernel_rfl
  simp [e1, e2]
theorem is_fraction_ok (h : Has T [64, 65, 68]) (hk : 1 < k) {q : Rat} (hq : Fit 9000 q) : runFn T k 68 [fr q] st = .ok (.val (.bl true)) st := by
  rw [run_at (h.at 68) (by omega)]
  unfold b68
  have e1 : pIsI ["tuple"] (fr q) = some (.bl true) := by kernel_rfl
  have e2 : ∀ i, runFn T (k - 1) 64 [.int i] st = .ok (.val (.bl true)) st := fun i => is_whole_ok h.sub (by omega) i
  have e3 := common_ok (k := k - 1) (st := st) (T := T) h.sub (by omega) (a := q.num) (b := (q.den : Int)) hq.1 (by simpa using hq.2)
  have e4 : Int.gcd q.num (q.den : Int) = 1 := q.reduced
  rw [e4] at e3
  have e5 : nLenS (fr q) st = some (.int 2) := rfl
  have e6 : 0 < q.den := q.den_pos
  simp [e1, e2, e3, e5, e6]
theorem is_time_ok (h : Has T [64, 65, 68, 105]) (hk : 2 < k) {q : Rat} (hq : Fit 9000 q) : runFn T k 105 [fr q] st = .ok (.val (.bl (decide (0 < q)))) st := by
  rw [run_at (h.at 105) (by omega)]
  unfold b105
  have e := is_fraction_ok (k := k - 1) (st := st) (T := T) h.sub (by omega) hq
  have e2 : (0 : Rat) < q ↔ 0 < q.num := by
    rw [Rat.lt_iff]
    simp
  simp [e, e2]
/-- ascending letters, one at least -/
def okLet (s : List Nat) : Bool := !s.isEmpty && (s.all fun c => decide (c ∈ [97, 98, 99, 100])) && (s.zip (s.drop 1)).all fun q => decide (q.1 < q.2)
theorem okLet_txt {s : List Nat} (h : okLet s = true) : Txt s := by
  unfold okLet at h
  simp only [Bool.and_eq_true] at h
  refine List.all_eq_true.mpr fun c hc => ?_
  have := of_decide_eq_true (List.all_eq_true.mp h.1.2 c hc)
  refine decide_eq_true ?_
  simp at this
  omega
theorem lt_one (a b : Nat) : ([a] < [b]) ↔ a < b := by
  constructor
  · intro h
    cases h with
    | rel h => exact h
    | cons h => cases h
  · exact fun h => .rel h
theorem cut_one (s : List α) : cutG s (some 1) none = s.drop 1 := by
  unfold cutG
  rw [show (some (1 : Int)) = some ((1 : Nat) : Int) from rfl, HT.sIx_nat, HT.sIx_none]
  cases s with
  | nil => rfl
  | cons a l => simp
theorem are_letters_ok (h : Has T [106]) (hk : 0 < k) {s : List Nat} (hs : Txt s) (hl : s.length ≤ lim) : runFn T k 106 [.str s] st = .ok (.val (.bl (okLet s))) st := by
  rw [run_at (h.at 106) (by omega)]
  have e1 : pIsI ["str"] (.str s) = some (.bl true) := by kernel_rfl
  have e2 : pEq (.str s) (.str []) = some (.bl s.isEmpty) := by
    unfold pEq
    have : BR.plain 8 (.str s) = true := by unfold BR.plain; exact hs
    rw [this]
    show some (PV.bl (decide (s = []))) = _
    cases s with
    | nil => rfl
    | cons a l => rfl
  have e3 := fLc_map (st := st) (ρ := [.val (.str s), .un, .un, .un]) (w := wItems (eVar 0)) (own := [3]) (g := gName 3) (e := eOp2 pIn (eVar 3) (eC (.str [97, 98, 99, 100]))) (fun c => PV.str [c]) (fun c => .bl (decide (c ∈ [97, 98, 99, 100]))) s
    (by simp [itemsOf]) hl (fun c _ => ⟨[.val (.str s), .un, .un, .val (.str [c])], rfl, rfl⟩)
  have e4 := nAll_map (fun c => decide (c ∈ [97, 98, 99, 100])) s
  have hz : (s.zip (s.drop 1)).length ≤ lim := by rw [List.length_zip]; omega
  have zs : zipSOf (.str s) (.str (s.drop 1)) = some ((s.zip (s.drop 1)).map fun q => PV.wt [.str [q.1], .str [q.2]]) := by
    unfold zipSOf zipPV strItems
    simp only
    rw [List.zip_map, List.map_map]
    rfl
  have ct : eCutS (eVar 0) (oSome (eC (.int 1))) oNone [.val (.str s), .un, .un, .un] st = .ok (.str (s.drop 1)) st := by
    show R.ofOpt (pCut (.str s) (some 1) none) st = _
    unfold pCut
    simp only
    rw [if_pos hl]
    rw [cut_one]
    rfl
  have e5 := fLc_map (st := st) (ρ := [.val (.str s), .un, .un, .un]) (w := wZipS (eVar 0) (eCutS (eVar 0) (oSome (eC (.int 1))) oNone)) (own := [1, 2]) (g := gTup [gName 1, gName 2]) (e := eOp2 pLt (eVar 1) (eVar 2)) (fun q : Nat × Nat => PV.wt [.str [q.1], .str [q.2]]) (fun q => .bl (decide (q.1 < q.2))) (s.zip (s.drop 1))
    (by
      show (R.ok (PV.str s) st).bind (fun p st1 => (eCutS (eVar 0) (oSome (eC (.int 1))) oNone [.val (.str s), .un, .un, .un] st1).bind fun q st2 => BR.R.ofOpt (zipSOf p q) st2) = _
      rw [bind_ok, ct, bind_ok, zs]
      rfl) hz (fun q _ => ⟨[.val (.str s), .val (.str [q.1]), .val (.str [q.2]), .un], rfl, by
        show R.ofOpt (some (PV.bl (decide ([q.1] < [q.2])))) st = _
        rw [decide_eq_decide.mpr (lt_one q.1 q.2)]
        rfl⟩)
  have e6 := nAll_map (fun q : Nat × Nat => decide (q.1 < q.2)) (s.zip (s.drop 1))
  have ae : (s.all fun c => decide (c ∈ [97, 98, 99, 100])) = s.all fun c => decide (c ∈ [97, 98, 99, 100]) := rfl
  generalize hA : (s.all fun c => decide (c ∈ [97, 98, 99, 100])) = A at e4
  generalize hZ : ((s.zip (s.drop 1)).all fun q => decide (q.1 < q.2)) = Z at e6
  generalize (s.map fun c => PV.bl (decide (c ∈ [97, 98, 99, 100]))) = L1 at e3 e4
  generalize ((s.zip (s.drop 1)).map fun q : Nat × Nat => PV.bl (decide (q.1 < q.2))) = L2 at e5 e6
  unfold b106 okLet
  rw [hA, hZ]
  cases hE : s.isEmpty with
  | true =>
    rw [hE] at e2
    simp [e1, e2]
  | false =>
    rw [hE] at e2
    cases A with
    | false => simp [e1, e2, e3, e4]
    | true => simp [e1, e2, e3, e4, e5, e6]
end
end BP
set_option Elab.async false
set_option linter.all false
set_option maxRecDepth 100000
set_option maxHeartbeats 4000000
namespace BP
open BR PySem
section
variable {T : Nat → Option Fn} {k : Nat} {st : Store} {ρ : BR.Env} {α : Type}
def okBeat (b : Beat) : Bool := decide (0 ≤ b.1) && okLet b.2
theorem pIsI_tup (xs : List PV) : pIsI ["tuple"] (.tup xs) = some (.bl true) := by kernel_rfl
theorem le_zero (q : Rat) : (0 ≤ q.num) ↔ 0 ≤ q := by
  rw [Rat.le_iff]
  simp
theorem is_beat_ok (h : Has T [64, 65, 68, 106, 107]) (hk : 2 < k) {b : Beat} (hb : Fit 9000 b.1 ∧ Txt b.2 ∧ b.2.length ≤ lim) : runFn T k 107 [bt b] st = .ok (.val (.bl (okBeat b))) st := by
  rw [run_at (h.at 107) (by omega)]
  have e1 : pIsI ["tuple"] (bt b) = some (.bl true) := pIsI_tup _
  have e2 : nLenS (bt b) st = some (.int 2) := rfl
  have e3 : pIdxS (bt b) (.int 0) st = some (fr b.1) := rfl
  have e4 : pIdxS (bt b) (.int 1) st = some (.str b.2) := rfl
  have e5 := is_fraction_ok (k := k - 1) (st := st) (T := T) h.sub (by omega) hb.1
  have e6 := are_letters_ok (k := k - 1) (st := st) (T := T) h.sub (by omega) hb.2.1 hb.2.2
  unfold b107 okBeat
  by_cases hq : 0 ≤ b.1
  · have hn := (le_zero b.1).mpr hq
    simp [e1, e2, e3, e4, e5, e6, hq, hn]
  · have hn : ¬ 0 ≤ b.1.num := fun z => hq ((le_zero b.1).mp z)
    simp [e1, e2, e3, e4, e5, e6, hq, hn]
def okBeats (bs : List Beat) (e : Rat) : Bool := bs.all okBeat && ((bs.zip (bs.drop 1)).all (fun q => decide (q.1.1 < q.2.1)) && bs.all fun b => decide (b.1 < e))
/-- beats that the evaluator can look at -/
def BOk (n : Nat) (bs : List Beat) : Prop := bs.length ≤ lim ∧ ∀ b ∈ bs, Fit n b.1 ∧ Txt b.2 ∧ b.2.length ≤ lim
theorem are_beats_ok (h : Has T [64, 65, 68, 73, 106, 107, 108]) (hk : 3 < k) {bs : List Beat} {e : Rat} (hb : BOk 9000 bs) (he : Fit 9000 e) : runFn T k 108 [.tup (bs.map bt), fr e] st = .ok (.val (.bl (okBeats bs e))) st := by
  rw [run_at (h.at 108) (by omega)]
  obtain ⟨hl, hb⟩ := hb
  have e1 := fLc_map (st := st) (ρ := [.val (.tup (bs.map bt)), .val (fr e), .un, .un, .un]) (w := wItems (eVar 0)) (own := [2]) (g := gName 2) (e := eFrz (fCall (runFn T (k - 1)) 107 (aCons (eVar 2) (aNil)))) bt (fun b => .bl (okBeat b)) bs (by simp) hl
    (fun b hb' => ⟨[.val (.tup (bs.map bt)), .val (fr e), .val (bt b), .un, .un], rfl, by
      have q := is_beat_ok (k := k - 1) (st := st) (T := T) h.sub (by omega) (hb b hb')
      simp [q]⟩)
  have a1 := nAll_map okBeat bs
  have ct : eCutS (eVar 0) (oSome (eC (.int 1))) oNone [.val (.tup (bs.map bt)), .val (fr e), .un, .un, .un] st = .ok (.tup ((bs.drop 1).map bt)) st := by
    show R.ofOpt (some (PV.tup (cutG (bs.map bt) (some 1) none))) st = _
    rw [cut_one, ← List.map_drop]
    rfl
  have zs : zipOf (.tup (bs.map bt)) (.tup ((bs.drop 1).map bt)) = some ((bs.zip (bs.drop 1)).map fun q => PV.wt [bt q.1, bt q.2]) := by
    unfold zipOf zipPV
    simp only
    rw [List.zip_map, List.map_map]
    rfl
  have e2 := fLc_map (st := st) (ρ := [.val (.tup (bs.map bt)), .val (fr e), .un, .un, .un]) (w := wZip (eVar 0) (eCutS (eVar 0) (oSome (eC (.int 1))) oNone)) (own := [3, 4]) (g := gTup [gName 3, gName 4])
    (e := eFrz (fCall (runFn T (k - 1)) 73 (aCons (eOp2S pIdxS (eVar 3) (eC (.int 0))) (aCons (eOp2S pIdxS (eVar 4) (eC (.int 0))) (aNil))))) (fun q : Beat × Beat => PV.wt [bt q.1, bt q.2]) (fun q => .bl (decide (q.1.1 < q.2.1))) (bs.zip (bs.drop 1))
    (by
      show (R.ok (PV.tup (bs.map bt)) st).bind (kLs2 zipOf _ _) = _
      rw [bind_ok, kLs2_ev, ct, bind_ok, kLs_ev, zs]
      rfl) (by rw [List.length_zip]; omega)
    (fun q hq => ⟨[.val (.tup (bs.map bt)), .val (fr e), .un, .val (bt q.1), .val (bt q.2)], rfl, by
      have m := List.of_mem_zip hq
      have z := is_less_ok (k := k - 1) (st := st) (T := T) h.sub (by omega) (hb q.1 m.1).1 (hb q.2 (List.mem_of_mem_drop m.2)).1
      have p1 : pIdxS (bt q.1) (.int 0) st = some (fr q.1.1) := rfl
      have p2 : pIdxS (bt q.2) (.int 0) st = some (fr q.2.1) := rfl
      simp [p1, p2, z]⟩)
  have a2 := nAll_map (fun q : Beat × Beat => decide (q.1.1 < q.2.1)) (bs.zip (bs.drop 1))
  have e3 := fLc_map (st := st) (ρ := [.val (.tup (bs.map bt)), .val (fr e), .un, .un, .un]) (w := wItems (eVar 0)) (own := [2]) (g := gName 2) (e := eFrz (fCall (runFn T (k - 1)) 73 (aCons (eOp2S pIdxS (eVar 2) (eC (.int 0))) (aCons (eVar 1) (aNil))))) bt (fun b => .bl (decide (b.1 < e))) bs (by simp) hl
    (fun b hb' => ⟨[.val (.tup (bs.map bt)), .val (fr e), .val (bt b), .un, .un], rfl, by
      have z := is_less_ok (k := k - 1) (st := st) (T := T) h.sub (by omega) (hb b hb').1 he
      have p1 : pIdxS (bt b) (.int 0) st = some (fr b.1) := rfl
      simp [p1, z]⟩)
  have a3 := nAll_map (fun b : Beat => decide (b.1 < e)) bs
  unfold b108 okBeats
  generalize (bs.zip (bs.drop 1)).map (fun q : Beat × Beat => PV.bl (decide (q.1.1 < q.2.1))) = L2 at e2 a2
  generalize bs.map (fun b : Beat => PV.bl (decide (b.1 < e))) = L3 at e3 a3
  generalize bs.map (fun b : Beat => PV.bl (okBeat b)) = L1 at e1 a1
  generalize bs.all okBeat = A1 at a1 ⊢
  generalize ((bs.zip (bs.drop 1)).all fun q : Beat × Beat => decide (q.1.1 < q.2.1)) = A2 at a2 ⊢
  generalize (bs.all fun b : Beat => decide (b.1 < e)) = A3 at a3 ⊢
  cases A1 with
  | false => simp [e1, a1]
  | true =>
    cases A2 with
    | false => simp [e1, a1, e2, a2]
    | true => simp [e1, a1, e2, a2, e3, a3]
end
end BP
set_option Elab.async false
set_option linter.all false
set_option maxRecDepth 100000
set_option maxHeartbeats 4000000
namespace BP
open BR PySem
section
variable {T : Nat → Option Fn} {k : Nat} {st : Store} {α : Type}
theorem forGo_find {g : GM} {body : SM} (b : α → PV) (c : α → Bool) (v : α → SV) (Q : BR.Env → Prop) : ∀ (ys : List α) (ρ : BR.Env), Q ρ →
    (∀ y ∈ ys, ∀ ρ, Q ρ → ∃ ρ1, g (b y) ρ st = some (ρ1, st) ∧ (c y = false → ∃ ρ2, body ρ1 st = .next ρ2 st ∧ Q ρ2) ∧ (c y = true → body ρ1 st = .ret (v y) st)) →
    (ys.find? c = none → ∃ ρ', forGo g body (ys.map b) ρ st = .next ρ' st ∧ Q ρ') ∧ ∀ y, ys.find? c = some y → forGo g body (ys.map b) ρ st = .ret (v y) st
  | [], ρ, q, _ => ⟨fun _ => ⟨ρ, rfl, q⟩, fun _ h => nomatch h⟩
  | y :: ys, ρ, q, h => by
    obtain ⟨ρ1, h1, h2, h3⟩ := h y List.mem_cons_self ρ q
    rw [List.map_cons, forGo_cons h1, List.find?_cons]
    cases hc : c y with
    | true =>
      refine And.intro (fun e => nomatch e) (fun z e => ?_)
      cases e
      rw [h3 hc, loop_ret]
    | false =>
      obtain ⟨ρ2, e2, q2⟩ := h2 hc
      obtain ⟨r1, r2⟩ := forGo_find b c v Q ys ρ2 q2 fun z hz => h z (List.mem_cons_of_mem _ hz)
      rw [e2, loop_next]
      exact ⟨r1, r2⟩
def bAt (bs : List Beat) (i : Nat) : Beat := bs.getD i (0, [])
theorem bAt_get {bs : List Beat} {i : Nat} (h : i < bs.length) : bs[i]? = some (bAt bs i) := by
  unfold bAt
  rw [List.getD_eq_getElem?_getD, List.getElem?_eq_getElem h, Option.getD_some]
theorem bAt_mem {bs : List Beat} {i : Nat} (h : i < bs.length) : bAt bs i ∈ bs := List.mem_of_getElem? (bAt_get h)
def comesRound (bs : List Beat) (m : Nat) (per : Rat) : Bool := (List.range (bs.length - m)).all fun i => decide ((bAt bs (i + m)).2 = (bAt bs i).2) && decide ((bAt bs (i + m)).1 - (bAt bs i).1 = per)
theorem pNe_str {a b : List Nat} (ha : Txt a) (hb : Txt b) : pNe (.str a) (.str b) = some (.bl (!decide (a = b))) := by
  unfold pNe
  have h1 : BR.plain 8 (.str a) = true := by unfold BR.plain; exact ha
  have h2 : BR.plain 8 (.str b) = true := by unfold BR.plain; exact hb
  rw [h1, h2]
  rfl
end
end BP
set_option Elab.async false
set_option linter.all false
set_option maxRecDepth 100000
set_option maxHeartbeats 4000000
namespace BP
open BR PySem
section
variable {T : Nat → Option Fn} {k : Nat} {st : Store} {α : Type}
@[simp] theorem wRngD_ev {ρ : BR.Env} (m n) : wRngD m n ρ st = (m ρ st).bind (kLs2 rngDown n ρ) := rfl
def downs (n : Nat) : List Nat := (List.range n).map fun i => n - i
def fits (p : Rat) (bs : List Beat) (m : Nat) : Bool := decide (bs.length / m * m = bs.length) && (decide ((bAt bs (bs.length / m - 1)).1 < p / (m : Rat)) && comesRound bs (bs.length / m) (p / (m : Rat)))
def leastForm (p : Rat) (bs : List Beat) : Rat × List Beat := if bs = [] then (1, []) else match (downs bs.length).find? (fits p bs) with
  | some m => (p / (m : Rat), bs.take (bs.length / m))
  | none => (p, bs)
def lf (x : Rat × List Beat) : PV := .tup [fr x.1, .tup (x.2.map bt)]
end
end BP
set_option Elab.async false
set_option linter.all false
set_option maxRecDepth 100000
set_option maxHeartbeats 4000000
namespace BP
open BR PySem
section
variable {T : Nat → Option Fn} {k : Nat} {st : Store}
/-- no time twice -/
def Apart (bs : List Beat) : Prop := bs.Pairwise fun a b => a.1 ≠ b.1
theorem dPut_new (x : Beat) : ∀ (acc : List Beat), (∀ y ∈ acc, y.1 ≠ x.1) → dPut (fr x.1) (.str x.2) (acc.map fun b => fr b.1) (acc.map fun b => .str b.2) = ((acc ++ [x]).map (fun b => fr b.1), (acc ++ [x]).map fun b => .str b.2)
  | [], _ => rfl
  | y :: acc, h => by
    have ih := dPut_new x acc fun z hz => h z (List.mem_cons_of_mem _ hz)
    rw [List.map_cons, List.map_cons]
    unfold dPut
    rw [eqv_fr, decide_eq_false (h y List.mem_cons_self), if_neg Bool.false_ne_true, ih]
    rfl
theorem dOf_bt : ∀ (bs acc : List Beat), Apart (acc ++ bs) → dOf (bs.map bt) (acc.map fun b => fr b.1) (acc.map fun b => .str b.2) = some ((acc ++ bs).map (fun b => fr b.1), (acc ++ bs).map fun b => .str b.2)
  | [], acc, _ => by rw [List.append_nil]; rfl
  | x :: bs, acc, h => by
    have hn : ∀ y ∈ acc, y.1 ≠ x.1 := fun y hy => (List.pairwise_append.mp h).2.2 y hy x List.mem_cons_self
    rw [List.map_cons]
    show (if kok (fr x.1) then dOf (bs.map bt) (dPut (fr x.1) (.str x.2) (acc.map fun b => fr b.1) (acc.map fun b => .str b.2)).1 (dPut (fr x.1) (.str x.2) (acc.map fun b => fr b.1) (acc.map fun b => .str b.2)).2 else none) = _
    rw [kok_fr, if_pos rfl, dPut_new x acc hn, dOf_bt bs (acc ++ [x]) (by rw [List.append_assoc]; exact h), List.append_assoc]
    rfl
theorem nDict_bt {bs : List Beat} (h : Apart bs) : nDict [.tup (bs.map bt)] = some (.dct (bs.map fun b => fr b.1) (bs.map fun b => .str b.2)) := by
  have := dOf_bt bs [] h
  show (dOf (bs.map bt) [] []).map _ = _
  rw [show dOf (bs.map bt) [] [] = _ from this]
  rfl
theorem Pairwise_apart {bs : List Beat} (h : bs.Pairwise (fun a b => a.1 < b.1)) : Apart bs := h.imp fun q e => by rw [e] at q; exact Rat.lt_irrefl q
end
end BP
set_option Elab.async false
set_option linter.all false
set_option maxRecDepth 100000
set_option maxHeartbeats 4000000
namespace BP
open BR PySem
theorem zip_all {α : Type} {p : α × α → Bool} {R : α → α → Prop} (hp : ∀ a b, R a b → p (a, b) = true) : ∀ {s : List α}, s.Pairwise R → (s.zip (s.drop 1)).all p = true
  | [], _ => rfl
  | [x], _ => rfl
  | x :: y :: s, h => by
    obtain ⟨h1, h2⟩ := List.pairwise_cons.mp h
    rw [List.drop_succ_cons, List.drop_zero, List.zip_cons_cons, List.all_cons, hp x y (h1 y List.mem_cons_self), Bool.true_and]
    have := zip_all hp h2
    rwa [List.drop_succ_cons, List.drop_zero] at this
theorem asc_nat : ∀ {s : List Nat}, ((s.zip (s.drop 1)).all fun q => decide (q.1 < q.2)) = true → s.Pairwise (fun a b => a < b)
  | [], _ => .nil
  | [x], _ => List.pairwise_singleton _ _
  | x :: y :: bs, h => by
    rw [List.drop_succ_cons, List.drop_zero, List.zip_cons_cons, List.all_cons, Bool.and_eq_true, decide_eq_true_eq] at h
    have ih := asc_nat (s := y :: bs) (by rw [List.drop_succ_cons, List.drop_zero]; exact h.2)
    refine List.pairwise_cons.mpr ⟨fun z hz => ?_, ih⟩
    rcases List.mem_cons.mp hz with e | e
    · rw [e]; exact h.1
    · exact Nat.lt_trans h.1 ((List.pairwise_cons.mp ih).1 z e)
abbrev Abcd (c : Nat) : Prop := c ∈ [97, 98, 99, 100]
theorem okLet_iff (s : List Nat) : okLet s = true ↔ s ≠ [] ∧ (∀ c ∈ s, Abcd c) ∧ s.Pairwise (fun a b => a < b) := by
  unfold okLet
  simp only [Bool.and_eq_true, Bool.not_eq_true', List.isEmpty_eq_false_iff]
  constructor
  · rintro ⟨⟨h1, h2⟩, h3⟩
    exact ⟨h1, fun c hc => of_decide_eq_true (List.all_eq_true.mp h2 c hc), asc_nat h3⟩
  · rintro ⟨h1, h2, h3⟩
    exact ⟨⟨h1, List.all_eq_true.mpr fun c hc => decide_eq_true (h2 c hc)⟩, zip_all (fun a b q => decide_eq_true q) h3⟩
theorem okLet_one {c : Nat} (h : Abcd c) : okLet [c] = true := by
  rw [okLet_iff]
  exact ⟨by simp, fun d hd => by rw [List.mem_singleton.mp hd]; exact h, List.pairwise_singleton _ _⟩
/-- a stroke: one letter, not ahead of 0 -/
def Sg (x : Beat) : Prop := 0 ≤ x.1 ∧ ∃ c, x.2 = [c] ∧ Abcd c
/-- ascending beats, each at a time of P -/
structure Asc (P : Rat → Prop) (r : List Beat) : Prop where
  asc : r.Pairwise fun a b => a.1 < b.1
  ok : ∀ b ∈ r, okBeat b = true ∧ P b.1
end BP
set_option Elab.async false
set_option linter.all false
set_option maxRecDepth 100000
set_option maxHeartbeats 4000000
namespace BP
open BR PySem
section
variable {T : Nat → Option Fn} {k : Nat} {st : Store}
theorem mem_betw {p s e : Rat} {bs : List Beat} {x : Beat} (h : x ∈ betw p bs s e) : ∃ t b, (s / p).floor ≤ t ∧ t < (s / p).floor + ((e / p).ceil - (s / p).floor).toNat ∧ b ∈ bs ∧ x = (p * t + b.1, b.2) ∧ ¬ x.1 < s ∧ x.1 < e := by
  unfold betw at h
  obtain ⟨t, ht, hx⟩ := List.mem_flatMap.mp h
  unfold hits at hx
  obtain ⟨h1, h2⟩ := List.mem_filter.mp hx
  obtain ⟨b, hb, e1⟩ := List.mem_map.mp h1
  simp only [Bool.and_eq_true, Bool.not_eq_true', decide_eq_true_eq, decide_eq_false_iff_not] at h2
  have q := mem_nums ht
  exact ⟨t, b, q.1, q.2, hb, e1.symm, h2.1, h2.2⟩
theorem flatMap_le {α β : Type} (f : α → List β) (m : Nat) : ∀ (l : List α), (∀ x ∈ l, (f x).length ≤ m) → (l.flatMap f).length ≤ l.length * m
  | [], _ => by simp
  | x :: l, h => by
    have := flatMap_le f m l fun y hy => h y (List.mem_cons_of_mem _ hy)
    have := h x List.mem_cons_self
    rw [List.flatMap_cons, List.length_append, List.length_cons, Nat.succ_mul]
    omega
theorem betw_le {p s e : Rat} {bs : List Beat} : (betw p bs s e).length ≤ ((e / p).ceil - (s / p).floor).toNat * bs.length := by
  unfold betw
  have := flatMap_le (hits p bs s e) bs.length (nums (s / p).floor ((e / p).ceil - (s / p).floor).toNat) fun t _ => by
    unfold hits
    exact Nat.le_trans (List.length_filter_le _ _) (by rw [List.length_map]; exact Nat.le_refl _)
  rwa [show (nums (s / p).floor ((e / p).ceil - (s / p).floor).toNat).length = ((e / p).ceil - (s / p).floor).toNat from by unfold nums; rw [List.length_map, List.length_range]] at this
theorem look_txt {bs : List Beat} {t : Rat} (h : ∀ b ∈ bs, Txt b.2) : Txt (look bs t) := by
  unfold look
  cases e : bs.find? (fun b => decide (b.1 = t)) with
  | none => rfl
  | some b => exact h b (List.mem_of_find?_eq_some e)
/-- the strokes of one beat of one turn -/
def sts (p : Rat) (t : Int) (b : Beat) : List Beat := b.2.map fun c => (p * t + b.1, [c])
theorem rng1_nums {n : Int} (h : -(2 ^ 62) ≤ n ∧ n < 2 ^ 62) : rng1 (.int n) = some ((nums 0 n.toNat).map PV.int) := by
  unfold rng1
  simp only
  rw [show big62 n = true from decide_eq_true h, upInts_nums]
  rfl
end
end BP
set_option Elab.async false
set_option linter.all false
set_option maxRecDepth 100000
set_option maxHeartbeats 4000000
namespace BP
open BR PySem
theorem Sg.txt {x : Beat} (h : Sg x) : Txt x.2 := by
  obtain ⟨_, c, e, hc⟩ := h
  rw [e]
  exact okLet_txt (okLet_one hc)
end BP
set_option Elab.async false
set_option linter.all false
set_option maxRecDepth 100000
set_option maxHeartbeats 4000000
namespace BP
open BR PySem
theorem le_div_iff' {a b c : Rat} (hc : 0 < c) : a ≤ b / c ↔ c * a ≤ b := by
  rw [← Rat.not_lt, Rat.div_lt_iff' hc, Rat.not_lt]
theorem int_succ (n : Int) : ((n + 1 : Int) : Rat) = (n : Rat) + 1 := Rat.intCast_add n 1
theorem nat_succ (n : Nat) : ((n + 1 : Nat) : Rat) = (n : Rat) + 1 := int_succ n
theorem floor_mul {p t : Rat} (hp : 0 < p) : p * (t / p).floor ≤ t ∧ t < p * (t / p).floor + p := by
  have h1 := Rat.floor_le (t / p)
  have h2 := Rat.lt_floor_add_one (t / p)
  rw [le_div_iff' hp] at h1
  rw [Rat.div_lt_iff' hp, int_succ] at h2
  exact ⟨h1, by grind⟩
theorem floor_of {p t : Rat} (hp : 0 < p) {z : Int} (h1 : p * z ≤ t) (h2 : t < p * z + p) : (t / p).floor = z := by
  apply Int.le_antisymm
  · have : (t / p).floor < z + 1 := by
      rw [Rat.floor_lt_iff, Rat.div_lt_iff' hp, int_succ]
      grind
    omega
  · rw [Rat.le_floor_iff, le_div_iff' hp]
    exact h1
theorem rbey_of {p t r : Rat} {z : Int} (e : t = p * z + r) (h0 : 0 ≤ r) (h1 : r < p) : rbey t p = r := by
  have hp : 0 < p := by grind
  unfold rbey
  rw [floor_of hp (z := z) (by grind) (by grind)]
  grind
theorem rbey_split {p : Rat} (hp : 0 < p) (t : Rat) : ∃ z : Int, t = p * z + rbey t p ∧ 0 ≤ rbey t p ∧ rbey t p < p := by
  have h := floor_mul (t := t) hp
  refine ⟨(t / p).floor, ?_⟩
  unfold rbey
  grind
theorem rbey_id {p t : Rat} (h0 : 0 ≤ t) (h1 : t < p) : rbey t p = t := by
  have z0 : ((0 : Int) : Rat) = 0 := rfl
  exact rbey_of (z := 0) (by grind) h0 h1
theorem rbey_add {p : Rat} (hp : 0 < p) (t : Rat) (z : Int) : rbey (t + p * z) p = rbey t p := by
  obtain ⟨y, e, h0, h1⟩ := rbey_split hp t
  exact rbey_of (z := y + z) (by rw [Rat.intCast_add]; grind) h0 h1
abbrev Asc1 (bs : List Beat) : Prop := bs.Pairwise fun a b => a.1 < b.1
abbrev Full (bs : List Beat) : Prop := ∀ b ∈ bs, b.2 ≠ []
theorem look_cons (b : Beat) (bs : List Beat) (t : Rat) : look (b :: bs) t = if b.1 = t then b.2 else look bs t := by
  unfold look
  rw [List.find?_cons]
  by_cases h : b.1 = t
  · rw [decide_eq_true h, if_pos h]
    rfl
  · rw [decide_eq_false h, if_neg h]
theorem look_none : ∀ {bs : List Beat} {t : Rat}, (∀ b ∈ bs, b.1 ≠ t) → look bs t = []
  | [], _, _ => rfl
  | b :: bs, t, h => by
    rw [look_cons, if_neg (h b List.mem_cons_self)]
    exact look_none fun c hc => h c (List.mem_cons_of_mem _ hc)
theorem look_mem : ∀ {bs : List Beat} {t : Rat} {s : List Nat}, Asc1 bs → (t, s) ∈ bs → look bs t = s
  | b :: bs, t, s, ha, h => by
    obtain ⟨h1, h2⟩ := List.pairwise_cons.mp ha
    rw [look_cons]
    rcases List.mem_cons.mp h with e | e
    · rw [← e, if_pos rfl]
    · have := h1 _ e
      rw [if_neg fun q => by rw [q] at this; exact Rat.lt_irrefl this]
      exact look_mem h2 e
theorem look_ne : ∀ {bs : List Beat} {t : Rat}, look bs t ≠ [] → (t, look bs t) ∈ bs
  | [], _, h => absurd rfl h
  | b :: bs, t, h => by
    rw [look_cons] at h ⊢
    by_cases e : b.1 = t
    · rw [if_pos e, ← e]
      exact List.mem_cons_self
    · rw [if_neg e] at h ⊢
      exact List.mem_cons_of_mem _ (look_ne h)
theorem look_congr {as bs : List Beat} (ha : Asc1 as) (hb : Asc1 bs) (fa : Full as) (fb : Full bs) {t u : Rat} (h : ∀ s, (t, s) ∈ as ↔ (u, s) ∈ bs) : look as t = look bs u := by
  by_cases e : look as t = []
  · by_cases e2 : look bs u = []
    · rw [e, e2]
    · rw [look_mem ha ((h _).mpr (look_ne e2))]
  · rw [look_mem hb ((h _).mp (look_ne e))]
theorem mem_ext : ∀ {as bs : List Beat}, Asc1 as → Asc1 bs → (∀ x, x ∈ as ↔ x ∈ bs) → as = bs
  | [], [], _, _, _ => rfl
  | [], b :: bs, _, _, h => absurd ((h b).mpr List.mem_cons_self) (by simp)
  | a :: as, [], _, _, h => absurd ((h a).mp List.mem_cons_self) (by simp)
  | a :: as, b :: bs, ha, hb, h => by
    obtain ⟨h1, h2⟩ := List.pairwise_cons.mp ha
    obtain ⟨g1, g2⟩ := List.pairwise_cons.mp hb
    have e : a = b := by
      rcases List.mem_cons.mp ((h a).mp List.mem_cons_self) with e | e
      · exact e
      · rcases List.mem_cons.mp ((h b).mpr List.mem_cons_self) with e2 | e2
        · exact e2.symm
        · have l1 := g1 a e
          have l2 := h1 b e2
          grind
    subst e
    rw [mem_ext h2 g2 fun x => ?_]
    constructor
    · intro hx
      rcases List.mem_cons.mp ((h x).mp (List.mem_cons_of_mem _ hx)) with e | e
      · have := h1 x hx
        rw [e] at this
        exact absurd this Rat.lt_irrefl
      · exact e
    · intro hx
      rcases List.mem_cons.mp ((h x).mpr (List.mem_cons_of_mem _ hx)) with e | e
      · have := g1 x hx
        rw [e] at this
        exact absurd this Rat.lt_irrefl
      · exact e
theorem look_ext {as bs : List Beat} (ha : Asc1 as) (hb : Asc1 bs) (fa : Full as) (fb : Full bs) (h : ∀ t, look as t = look bs t) : as = bs := by
  refine mem_ext ha hb fun x => ⟨fun hx => ?_, fun hx => ?_⟩
  · have e := look_mem ha (t := x.1) (s := x.2) hx
    have := fa x hx
    have := look_ne (bs := bs) (t := x.1) (by rw [← h, e]; exact this)
    rwa [← h, e] at this
  · have e := look_mem hb (t := x.1) (s := x.2) hx
    have := fb x hx
    have := look_ne (bs := as) (t := x.1) (by rw [h, e]; exact this)
    rwa [h, e] at this
/-- a period, ascending beats in it -/
structure Mach (p : Rat) (bs : List Beat) : Prop where
  pos : 0 < p
  asc : Asc1 bs
  inn : ∀ b ∈ bs, 0 ≤ b.1 ∧ b.1 < p ∧ b.2 ≠ []
theorem Mach.full {p : Rat} {bs : List Beat} (h : Mach p bs) : Full bs := fun b hb => (h.inn b hb).2.2
/-- the letters at any time -/
def snd (p : Rat) (bs : List Beat) (t : Rat) : List Nat := look bs (rbey t p)
def Per (f : Rat → List Nat) (p : Rat) : Prop := ∀ t, f (t + p) = f t
theorem snd_in {p : Rat} {bs : List Beat} {t : Rat} (h0 : 0 ≤ t) (h1 : t < p) : snd p bs t = look bs t := by unfold snd; rw [rbey_id h0 h1]
theorem snd_add {p : Rat} (hp : 0 < p) (bs : List Beat) (t : Rat) (z : Int) : snd p bs (t + p * z) = snd p bs t := by unfold snd; rw [rbey_add hp]
theorem snd_per {p : Rat} (hp : 0 < p) (bs : List Beat) : Per (snd p bs) p := fun t => by
  have := snd_add hp bs t 1
  rwa [show p * ((1 : Int) : Rat) = p from Rat.mul_one p] at this
theorem Mach.ext {p : Rat} {as bs : List Beat} (ha : Mach p as) (hb : Mach p bs) (h : ∀ t, snd p as t = snd p bs t) : as = bs := by
  refine look_ext ha.asc hb.asc ha.full hb.full fun t => ?_
  by_cases ht : 0 ≤ t ∧ t < p
  · rw [← snd_in ht.1 ht.2, h, snd_in ht.1 ht.2]
  · rw [look_none fun b hb' e => ht (by rw [← e]; exact ⟨(ha.inn b hb').1, (ha.inn b hb').2.1⟩), look_none fun b hb' e => ht (by rw [← e]; exact ⟨(hb.inn b hb').1, (hb.inn b hb').2.1⟩)]
theorem Per.mulNat {f : Rat → List Nat} {p : Rat} (h : Per f p) : ∀ (n : Nat) (t : Rat), f (t + p * (n : Rat)) = f t
  | 0, t => by rw [show ((0 : Nat) : Rat) = 0 from rfl, Rat.mul_zero, Rat.add_zero]
  | n + 1, t => by
    rw [nat_succ, show t + p * ((n : Rat) + 1) = t + p * (n : Rat) + p from by grind, h, h.mulNat n]
theorem Per.mulInt {f : Rat → List Nat} {p : Rat} (h : Per f p) (z : Int) (t : Rat) : f (t + p * (z : Rat)) = f t := by
  rcases Int.eq_nat_or_neg z with ⟨n, e | e⟩
  · rw [e]
    exact h.mulNat n t
  · rw [e, ← h.mulNat n (t + p * ((-(n : Int) : Int) : Rat)), Rat.intCast_neg, show t + p * -((n : Int) : Rat) + p * (n : Rat) = t from by
      have : ((n : Int) : Rat) = (n : Rat) := rfl
      rw [this]
      grind]
def rep (q : Rat) (F : List Beat) (m : Nat) : List Beat := (List.range m).flatMap fun j : Nat => F.map fun b => (q * (j : Rat) + b.1, b.2)
theorem rep_succ (q : Rat) (F : List Beat) (m : Nat) : rep q F (m + 1) = rep q F m ++ F.map fun b => (q * (m : Rat) + b.1, b.2) := by
  unfold rep
  rw [List.range_succ, List.flatMap_append, List.flatMap_singleton]
theorem mem_rep {q : Rat} {F : List Beat} {m : Nat} {x : Beat} : x ∈ rep q F m ↔ ∃ j : Nat, j < m ∧ ∃ b, b ∈ F ∧ x = (q * (j : Rat) + b.1, b.2) := by
  unfold rep
  rw [List.mem_flatMap]
  constructor
  · rintro ⟨j, hj, hx⟩
    obtain ⟨b, hb, e⟩ := List.mem_map.mp hx
    exact ⟨j, List.mem_range.mp hj, b, hb, e.symm⟩
  · rintro ⟨j, hj, b, hb, e⟩
    exact ⟨j, List.mem_range.mpr hj, List.mem_map.mpr ⟨b, hb, e.symm⟩⟩
theorem rep_len (q : Rat) (F : List Beat) : ∀ m, (rep q F m).length = m * F.length
  | 0 => by unfold rep; simp
  | m + 1 => by rw [rep_succ, List.length_append, rep_len q F m, List.length_map, Nat.succ_mul]
theorem bAt_left {as bs : List Beat} {i : Nat} (h : i < as.length) : bAt (as ++ bs) i = bAt as i := by
  unfold bAt
  rw [List.getD_eq_getElem?_getD, List.getD_eq_getElem?_getD, List.getElem?_append_left h]
theorem bAt_right {as bs : List Beat} {i : Nat} (h : as.length ≤ i) : bAt (as ++ bs) i = bAt bs (i - as.length) := by
  unfold bAt
  rw [List.getD_eq_getElem?_getD, List.getD_eq_getElem?_getD, List.getElem?_append_right h]
theorem bAt_map {bs : List Beat} {i : Nat} (f : Beat → Beat) (h : i < bs.length) : bAt (bs.map f) i = f (bAt bs i) := by
  have := bAt_get h
  unfold bAt at *
  rw [List.getD_eq_getElem?_getD, List.getElem?_map, this]
  rfl
theorem rep_at (q : Rat) (F : List Beat) {i : Nat} (hi : i < F.length) : ∀ (m j : Nat), j < m → bAt (rep q F m) (j * F.length + i) = (q * (j : Rat) + (bAt F i).1, (bAt F i).2)
  | 0, _, h => absurd h (Nat.not_lt_zero _)
  | m + 1, j, h => by
    rw [rep_succ]
    by_cases hj : j < m
    · rw [bAt_left (by
        rw [rep_len]
        have := Nat.mul_le_mul_right F.length (show j + 1 ≤ m from hj)
        rw [Nat.succ_mul] at this
        omega), rep_at q F hi m j hj]
    · have e : j = m := by omega
      subst e
      rw [bAt_right (by rw [rep_len]; omega), rep_len, show j * F.length + i - j * F.length = i from by omega, bAt_map _ hi]
theorem bAt_ext {as bs : List Beat} (hl : as.length = bs.length) (h : ∀ i, i < as.length → bAt as i = bAt bs i) : as = bs := by
  refine List.ext_getElem? fun i => ?_
  by_cases hi : i < as.length
  · rw [bAt_get hi, bAt_get (by omega), h i hi]
  · rw [List.getElem?_eq_none (by omega), List.getElem?_eq_none (by omega)]
theorem rep_props {q : Rat} {F : List Beat} (h : Mach q F) : ∀ m : Nat, Asc1 (rep q F m) ∧ ∀ b ∈ rep q F m, 0 ≤ b.1 ∧ b.1 < q * (m : Rat) ∧ b.2 ≠ []
  | 0 => ⟨by unfold rep; exact .nil, fun b hb => by unfold rep at hb; simp at hb⟩
  | m + 1 => by
    obtain ⟨h1, h2⟩ := rep_props h m
    have hp := h.pos
    have hm : (0 : Rat) ≤ (m : Rat) := Rat.natCast_nonneg
    have hqm : 0 ≤ q * (m : Rat) := Rat.mul_nonneg (Rat.le_of_lt hp) hm
    rw [rep_succ, nat_succ]
    refine ⟨List.pairwise_append.mpr ⟨h1, ?_, ?_⟩, fun b hb => ?_⟩
    · refine List.pairwise_map.mpr (h.asc.imp fun {a b} l => ?_)
      show q * (m : Rat) + a.1 < q * (m : Rat) + b.1
      grind
    · intro a ha b hb
      obtain ⟨c, hc, rfl⟩ := List.mem_map.mp hb
      have := (h2 a ha).2.1
      have := (h.inn c hc).1
      show a.1 < q * (m : Rat) + c.1
      grind
    · rcases List.mem_append.mp hb with hb | hb
      · have := h2 b hb
        exact ⟨this.1, by grind, this.2.2⟩
      · obtain ⟨c, hc, rfl⟩ := List.mem_map.mp hb
        have := h.inn c hc
        refine ⟨?_, ?_, this.2.2⟩
        · show 0 ≤ q * (m : Rat) + c.1
          grind
        · show q * (m : Rat) + c.1 < q * ((m : Rat) + 1)
          grind
theorem nat_pos {m : Nat} (h : 0 < m) : (0 : Rat) < (m : Rat) := Rat.natCast_pos.mpr h
theorem rep_mach {q : Rat} {F : List Beat} (h : Mach q F) {m : Nat} (hm : 0 < m) : Mach (q * (m : Rat)) (rep q F m) :=
  ⟨Rat.mul_pos h.pos (nat_pos hm), (rep_props h m).1, (rep_props h m).2⟩
theorem rep_snd {q : Rat} {F : List Beat} (h : Mach q F) {m : Nat} (hm : 0 < m) (t : Rat) : snd (q * (m : Rat)) (rep q F m) t = snd q F t := by
  have hM := rep_mach h hm
  obtain ⟨z, e, r0, r1⟩ := rbey_split hM.pos t
  have e2 : rbey t q = rbey (rbey t (q * (m : Rat))) q := by
    conv => lhs; rw [e]
    rw [Rat.add_comm, show q * (m : Rat) * (z : Rat) = q * (((m : Int) * z : Int) : Rat) from by rw [Rat.intCast_mul]; show q * (m : Rat) * (z : Rat) = q * ((m : Rat) * (z : Rat)); grind, rbey_add h.pos]
  unfold snd
  rw [e2]
  generalize rbey t (q * (m : Rat)) = r at r0 r1 ⊢
  obtain ⟨y, f, s0, s1⟩ := rbey_split h.pos r
  refine look_congr hM.asc h.asc hM.full h.full fun s => ⟨fun hs => ?_, fun hs => ?_⟩
  · obtain ⟨j, hj, b, hb, eb⟩ := mem_rep.mp hs
    have e1 := congrArg Prod.fst eb
    have e3 := congrArg Prod.snd eb
    simp only at e1 e3
    have := h.inn b hb
    rw [rbey_of (z := (j : Int)) e1 this.1 this.2.1, e3]
    exact hb
  · have y0 : 0 ≤ y := by
      have : (-1 : Int) < y := by
        rw [← Rat.intCast_lt_intCast]
        refine Rat.lt_of_mul_lt_mul_left (c := q) ?_ (Rat.le_of_lt h.pos)
        show q * -1 < q * (y : Rat)
        grind
      omega
    have y1 : y < (m : Int) := by
      rw [← Rat.intCast_lt_intCast]
      refine Rat.lt_of_mul_lt_mul_left (c := q) ?_ (Rat.le_of_lt h.pos)
      show q * (y : Rat) < q * (m : Rat)
      grind
    refine mem_rep.mpr ⟨y.toNat, by omega, _, hs, ?_⟩
    have ey : ((y.toNat : Nat) : Rat) = (y : Rat) := by
      show ((y.toNat : Int) : Rat) = (y : Rat)
      rw [Int.toNat_of_nonneg y0]
    rw [ey, ← f]
def blk (q : Rat) (bs : List Beat) : List Beat := bs.filter fun b => decide (b.1 < q)
theorem div_nat {p : Rat} {m : Nat} (hm : 0 < m) : p / (m : Rat) * (m : Rat) = p := Rat.div_mul_cancel fun e => by have := nat_pos hm; rw [e] at this; exact Rat.lt_irrefl this
theorem div_pos {p : Rat} {m : Nat} (hp : 0 < p) (hm : 0 < m) : 0 < p / (m : Rat) := by
  rw [Rat.div_def]
  exact Rat.mul_pos hp (Rat.inv_pos.mpr (nat_pos hm))
theorem nat_ge1 {m : Nat} (hm : 0 < m) : (1 : Rat) ≤ (m : Rat) := by
  have : ((1 : Nat) : Rat) ≤ (m : Rat) := Rat.natCast_le_natCast.mpr hm
  exact this
theorem div_le {p : Rat} {m : Nat} (hp : 0 < p) (hm : 0 < m) : p / (m : Rat) ≤ p := by
  have h := div_nat (p := p) hm
  have h1 := nat_ge1 hm
  have h2 := Rat.mul_le_mul_of_nonneg_left h1 (Rat.le_of_lt (div_pos hp hm))
  rw [h, Rat.mul_one] at h2
  exact h2
theorem blk_mach {p q : Rat} {bs : List Beat} (h : Mach p bs) (hq : 0 < q) : Mach q (blk q bs) :=
  ⟨hq, h.asc.sublist List.filter_sublist, fun b hb => by
    have := List.mem_filter.mp hb
    exact ⟨(h.inn b this.1).1, of_decide_eq_true this.2, (h.inn b this.1).2.2⟩⟩
theorem look_blk {q t : Rat} {bs : List Beat} (h : Asc1 bs) (f : Full bs) (ht : t < q) : look (blk q bs) t = look bs t :=
  look_congr (h.sublist List.filter_sublist) h (fun b hb => f b (List.mem_filter.mp hb).1) f fun s => ⟨fun hs => (List.mem_filter.mp hs).1, fun hs => List.mem_filter.mpr ⟨hs, decide_eq_true ht⟩⟩
theorem blk_snd {p q : Rat} {bs : List Beat} (h : Mach p bs) (hq : 0 < q) (hl : q ≤ p) (hP : Per (snd p bs) q) (t : Rat) : snd q (blk q bs) t = snd p bs t := by
  obtain ⟨z, e, r0, r1⟩ := rbey_split hq t
  have : snd q (blk q bs) t = look (blk q bs) (rbey t q) := rfl
  rw [this, look_blk h.asc h.full r1, ← snd_in (p := p) r0 (by grind), ← hP.mulInt z, Rat.add_comm, ← e]
theorem blk_rep {p : Rat} {bs : List Beat} (h : Mach p bs) {m : Nat} (hm : 0 < m) (hP : Per (snd p bs) (p / (m : Rat))) : bs = rep (p / (m : Rat)) (blk (p / (m : Rat)) bs) m := by
  have hq := div_pos h.pos hm
  have hF := blk_mach h hq
  have hM := rep_mach hF hm
  have hd := div_nat (p := p) hm
  rw [hd] at hM
  refine h.ext hM fun t => ?_
  have := rep_snd hF hm t
  rw [hd] at this
  rw [this, blk_snd h hq (div_le h.pos hm) hP]
theorem take_rep {q : Rat} {F : List Beat} {m : Nat} (hm : 0 < m) : (rep q F m).take F.length = F := by
  have : rep q F m = (F.map fun b => (q * ((0 : Nat) : Rat) + b.1, b.2)) ++ ((List.range (m - 1)).map Nat.succ).flatMap fun j : Nat => F.map fun b => (q * (j : Rat) + b.1, b.2) := by
    obtain ⟨k, rfl⟩ : ∃ k, m = k + 1 := ⟨m - 1, by omega⟩
    unfold rep
    rw [List.range_succ_eq_map, List.flatMap_cons]
    rfl
  rw [this, List.take_append_of_le_length (by rw [List.length_map]; exact Nat.le_refl _), List.take_of_length_le (by rw [List.length_map]; exact Nat.le_refl _)]
  have z0 : ((0 : Nat) : Rat) = 0 := rfl
  conv => rhs; rw [← List.map_id F]
  refine List.map_congr_left fun b _ => ?_
  show (q * ((0 : Nat) : Rat) + b.1, b.2) = b
  rw [z0, Rat.mul_zero, Rat.zero_add]
theorem asc_le {bs : List Beat} (h : Asc1 bs) {i j : Nat} (hij : i ≤ j) (hj : j < bs.length) : (bAt bs i).1 ≤ (bAt bs j).1 := by
  have gi := bAt_get (show i < bs.length by omega)
  have gj := bAt_get hj
  rw [List.getElem?_eq_getElem (by omega)] at gi gj
  rcases Nat.lt_or_eq_of_le hij with l | e
  · have := List.pairwise_iff_getElem.mp h i j (by omega) hj l
    rw [Option.some.inj gi, Option.some.inj gj] at this
    exact Rat.le_of_lt this
  · rw [e]
    exact Rat.le_refl
theorem fits_per {p : Rat} {bs : List Beat} (h : Mach p bs) {m : Nat} (hm : 0 < m) (hml : m ≤ bs.length) (hf : fits p bs m = true) : Per (snd p bs) (p / (m : Rat)) := by
  unfold fits comesRound at hf
  simp only [Bool.and_eq_true, decide_eq_true_eq, List.all_eq_true, List.mem_range] at hf
  obtain ⟨h1, h2, h3⟩ := hf
  have hq := div_pos h.pos hm
  generalize hn : bs.length = n at *
  generalize hfd : n / m = f at *
  generalize hqd : p / (m : Rat) = q at *
  have f0 : 0 < f := by rw [← hfd]; exact Nat.div_pos hml hm
  have hfn : f ≤ n := by rw [← h1]; exact Nat.le_mul_of_pos_right f hm
  have key : ∀ (i j : Nat), i < f → j < m → bAt bs (j * f + i) = (q * (j : Rat) + (bAt bs i).1, (bAt bs i).2) := by
    intro i j hi
    induction j with
    | zero =>
      intro _
      rw [Nat.zero_mul, Nat.zero_add, show ((0 : Nat) : Rat) = 0 from rfl, Rat.mul_zero, Rat.zero_add]
    | succ j ih =>
      intro hj
      have e := ih (by omega)
      have lt : j * f + i < n - f := by
        have := Nat.mul_le_mul_right f (show j + 2 ≤ m from hj)
        rw [Nat.mul_comm m f, h1, Nat.add_mul] at this
        omega
      obtain ⟨g1, g2⟩ := h3 _ lt
      rw [e] at g1 g2
      rw [Nat.succ_mul, show j * f + f + i = j * f + i + f from by omega]
      simp only at g1 g2
      refine Prod.ext ?_ g1
      show (bAt bs (j * f + i + f)).1 = q * ((j + 1 : Nat) : Rat) + (bAt bs i).1
      rw [nat_succ]
      grind
  have hF : Mach q (bs.take f) := by
    refine ⟨hq, h.asc.sublist (List.take_sublist _ _), fun b hb => ?_⟩
    have hb' := List.mem_of_mem_take hb
    refine ⟨(h.inn b hb').1, ?_, (h.inn b hb').2.2⟩
    obtain ⟨i, hi, e⟩ := List.getElem_of_mem hb
    rw [List.length_take] at hi
    have gi := bAt_get (show i < bs.length by omega)
    rw [List.getElem_take] at e
    rw [List.getElem?_eq_getElem (by omega), e] at gi
    rw [Option.some.inj gi]
    have := asc_le h.asc (i := i) (j := f - 1) (by omega) (by omega)
    grind
  have hlen : (bs.take f).length = f := by rw [List.length_take, hn]; omega
  have e : bs = rep q (bs.take f) m := by
    refine bAt_ext (by rw [rep_len, hlen, hn, Nat.mul_comm]; exact h1.symm) fun x hx => ?_
    have e1 : x = x / f * f + x % f := by rw [Nat.mul_comm]; exact (Nat.div_add_mod x f).symm
    have hr : x % f < f := Nat.mod_lt _ f0
    have hj : x / f < m := by
      refine Nat.div_lt_of_lt_mul ?_
      omega
    have r := rep_at q (bs.take f) (i := x % f) (by rw [hlen]; exact hr) m (x / f) hj
    rw [hlen, ← e1] at r
    rw [r]
    have k2 := key (x % f) (x / f) hr hj
    rw [← e1] at k2
    have b2 : bAt (bs.take f) (x % f) = bAt bs (x % f) := by
      unfold bAt
      rw [List.getD_eq_getElem?_getD, List.getD_eq_getElem?_getD, List.getElem?_take_of_lt hr]
    rw [k2, b2]
  have hs : ∀ t, snd p bs t = snd q (bs.take f) t := fun t => by
    have := rep_snd hF hm t
    rw [← e, ← hqd, div_nat hm] at this
    rw [hqd] at this
    exact this
  intro t
  rw [hs, hs, snd_per hq]
theorem per_len {p : Rat} {bs : List Beat} (h : Mach p bs) {m : Nat} (hm : 0 < m) (hP : Per (snd p bs) (p / (m : Rat))) : bs.length = m * (blk (p / (m : Rat)) bs).length := by
  have e := blk_rep h hm hP
  have := congrArg List.length e
  rwa [rep_len] at this
theorem per_take {p : Rat} {bs : List Beat} (h : Mach p bs) {m : Nat} (hm : 0 < m) (hP : Per (snd p bs) (p / (m : Rat))) : bs.take (bs.length / m) = blk (p / (m : Rat)) bs := by
  have e := blk_rep h hm hP
  rw [per_len h hm hP, Nat.mul_div_cancel_left _ hm]
  generalize blk (p / (m : Rat)) bs = F at e ⊢
  rw [e]
  exact take_rep hm
theorem per_fits {p : Rat} {bs : List Beat} (h : Mach p bs) (hn : bs ≠ []) {m : Nat} (hm : 0 < m) (hP : Per (snd p bs) (p / (m : Rat))) : m ≤ bs.length ∧ fits p bs m = true := by
  have e := blk_rep h hm hP
  have el := per_len h hm hP
  have hF := blk_mach h (div_pos h.pos hm)
  have l0 : 0 < bs.length := List.length_pos_iff.mpr hn
  generalize blk (p / (m : Rat)) bs = F at e el hF
  have f0 : 0 < F.length := by
    rcases Nat.eq_zero_or_pos F.length with z | z
    · rw [z, Nat.mul_zero] at el; omega
    · exact z
  have hdv : bs.length / m = F.length := by rw [el, Nat.mul_div_cancel_left _ hm]
  refine ⟨by rw [el]; exact Nat.le_mul_of_pos_right m f0, ?_⟩
  generalize hqd : p / (m : Rat) = q at *
  unfold fits comesRound
  rw [hdv, hqd]
  simp only [Bool.and_eq_true, decide_eq_true_eq, List.all_eq_true, List.mem_range]
  have at0 : ∀ i j, i < F.length → j < m → bAt bs (j * F.length + i) = (q * (j : Rat) + (bAt F i).1, (bAt F i).2) := fun i j hi hj => by
    conv => lhs; rw [e]
    exact rep_at q F hi m j hj
  refine ⟨by rw [el, Nat.mul_comm], ?_, fun x hx => ?_⟩
  · have := at0 (F.length - 1) 0 (by omega) hm
    rw [Nat.zero_mul, Nat.zero_add] at this
    rw [this]
    show q * ((0 : Nat) : Rat) + (bAt F (F.length - 1)).1 < q
    rw [show ((0 : Nat) : Rat) = 0 from rfl, Rat.mul_zero, Rat.zero_add]
    exact (hF.inn _ (bAt_mem (by omega))).2.1
  · have e1 : x = x / F.length * F.length + x % F.length := by rw [Nat.mul_comm]; exact (Nat.div_add_mod x _).symm
    have hr : x % F.length < F.length := Nat.mod_lt _ f0
    have hj : x / F.length + 1 < m := by
      have : (x / F.length + 1) * F.length < m * F.length := by rw [Nat.succ_mul]; omega
      exact Nat.lt_of_mul_lt_mul_right this
    have k1 := at0 _ (x / F.length) hr (by omega)
    have k2 := at0 _ (x / F.length + 1) hr hj
    rw [Nat.succ_mul, show x / F.length * F.length + F.length + x % F.length = x + F.length from by omega] at k2
    rw [← e1] at k1
    rw [k1, k2, nat_succ]
    refine ⟨rfl, ?_⟩
    show q * (((x / F.length : Nat) : Rat) + 1) + (bAt F (x % F.length)).1 - (q * ((x / F.length : Nat) : Rat) + (bAt F (x % F.length)).1) = q
    grind
end BP
set_option Elab.async false
set_option linter.all false
set_option maxRecDepth 100000
set_option maxHeartbeats 4000000
namespace BP
open BR PySem
theorem mem_downs {n k : Nat} : k ∈ downs n ↔ 0 < k ∧ k ≤ n := by
  unfold downs
  rw [List.mem_map]
  constructor
  · rintro ⟨i, hi, rfl⟩
    have := List.mem_range.mp hi
    omega
  · rintro ⟨h0, h1⟩
    exact ⟨n - k, List.mem_range.mpr (by omega), by omega⟩
theorem downs_pw (n : Nat) : (downs n).Pairwise fun a b => b < a := by
  unfold downs
  refine List.pairwise_map.mpr ?_
  refine (List.pairwise_lt_range (n := n)).imp_of_mem fun {a b} ha hb l => ?_
  have := List.mem_range.mp ha
  have := List.mem_range.mp hb
  omega
theorem find_downs {c : Nat → Bool} {n m : Nat} (h : (downs n).find? c = some m) : c m = true ∧ 0 < m ∧ m ≤ n ∧ ∀ k, m < k → k ≤ n → c k = false := by
  obtain ⟨h1, as, bs, e, h2⟩ := List.find?_eq_some_iff_append.mp h
  have hm := mem_downs.mp (show m ∈ downs n from by rw [e]; simp)
  refine ⟨h1, hm.1, hm.2, fun k hk hk2 => ?_⟩
  have mk : k ∈ downs n := mem_downs.mpr ⟨by omega, hk2⟩
  have pw := downs_pw n
  rw [e] at mk pw
  rcases List.mem_append.mp mk with q | q
  · have := h2 k q
    simpa using this
  · rcases List.mem_cons.mp q with q | q
    · omega
    · have := (List.pairwise_cons.mp (List.pairwise_append.mp pw).2.1).1 k q
      omega
theorem mul_den (q : Rat) : q * (q.den : Rat) = (q.num : Rat) := by
  have h := Rat.num_divInt_den q
  rw [Rat.divInt_eq_div] at h
  have hz : (q.den : Rat) ≠ 0 := fun e => by
    have := nat_pos q.den_pos
    rw [e] at this
    exact Rat.lt_irrefl this
  conv => lhs; arg 1; rw [← h]
  exact Rat.div_mul_cancel hz
theorem num_pos {q : Rat} (h : 0 < q) : 0 < q.num := by
  rw [Rat.lt_iff] at h
  simpa using h
theorem pos_nat {q : Rat} (h : 0 < q) : ∃ n : Nat, 0 < n ∧ (q.num : Rat) = (n : Rat) := by
  have := num_pos h
  refine ⟨q.num.toNat, by omega, ?_⟩
  show (q.num : Rat) = ((q.num.toNat : Int) : Rat)
  rw [Int.toNat_of_nonneg (by omega)]
structure Least (p : Rat) (bs : List Beat) : Prop where
  mach : Mach p bs
  least : bs ≠ [] → ∀ r, 0 < r → Per (snd p bs) r → ∃ b : Nat, 0 < b ∧ r = p * (b : Rat)
  triv : bs = [] → p = 1
theorem one_pos : (0 : Rat) < 1 := by decide +kernel
theorem per_one {p : Rat} {bs : List Beat} (h : Mach p bs) : Per (snd p bs) (p / ((1 : Nat) : Rat)) := by
  have : p / ((1 : Nat) : Rat) = p := by
    have := div_nat (p := p) (m := 1) (by decide)
    have e1 : ((1 : Nat) : Rat) = 1 := rfl
    rw [e1] at this ⊢
    rw [Rat.mul_one] at this
    exact this
  rw [this]
  exact snd_per h.pos bs
theorem leastForm_some {p : Rat} {bs : List Beat} (h : Mach p bs) (hn : bs ≠ []) : ∃ m, 0 < m ∧ m ≤ bs.length ∧ Per (snd p bs) (p / (m : Rat)) ∧ (∀ k : Nat, 0 < k → Per (snd p bs) (p / (k : Rat)) → k ≤ m) ∧ leastForm p bs = (p / (m : Rat), blk (p / (m : Rat)) bs) := by
  unfold leastForm
  rw [if_neg hn]
  cases hf : (downs bs.length).find? (fits p bs) with
  | none =>
    have g := per_fits h hn (m := 1) (by decide) (per_one h)
    have := List.find?_eq_none.mp hf 1 (mem_downs.mpr ⟨by decide, g.1⟩)
    exact absurd g.2 this
  | some m =>
    obtain ⟨h1, h2, h3, h4⟩ := find_downs hf
    have hP := fits_per h h2 h3 h1
    refine ⟨m, h2, h3, hP, fun k k0 hk => ?_, ?_⟩
    · have g := per_fits h hn k0 hk
      rcases Nat.lt_or_ge m k with l | l
      · have := h4 k l g.1
        rw [g.2] at this
        cases this
      · exact l
    · show (p / (m : Rat), bs.take (bs.length / m)) = _
      rw [per_take h h2 hP]
theorem leastForm_nil (p : Rat) : leastForm p [] = (1, []) := by unfold leastForm; rw [if_pos rfl]
theorem nat_inj {a b : Nat} (h : (a : Rat) = (b : Rat)) : a = b := by
  have := congrArg Rat.num h
  have : (a : Int) = (b : Int) := this
  omega
theorem Least.silent {p : Rat} {bs : List Beat} (h : Mach p bs) : bs = [] ↔ ∀ t, snd p bs t = [] := by
  constructor
  · intro e t
    rw [e]
    rfl
  · intro hs
    refine Classical.byContradiction fun hn => ?_
    obtain ⟨b, hb⟩ := List.exists_mem_of_ne_nil bs hn
    have := look_mem h.asc (t := b.1) (s := b.2) hb
    have l := h.inn b hb
    rw [← snd_in l.1 l.2.1, hs] at this
    exact l.2.2 this.symm
theorem Least.ext {p q : Rat} {as bs : List Beat} (ha : Least p as) (hb : Least q bs) (h : ∀ t, snd p as t = snd q bs t) : (p, as) = (q, bs) := by
  have hn : as = [] ↔ bs = [] := by rw [Least.silent ha.mach, Least.silent hb.mach]; simp only [h]
  have ep : p = q := by
    by_cases e : as = []
    · rw [ha.triv e, hb.triv (hn.mp e)]
    · have hP : Per (snd q bs) p := fun t => by rw [← h, ← h]; exact snd_per ha.mach.pos as t
      have hQ : Per (snd p as) q := fun t => by rw [h, h]; exact snd_per hb.mach.pos bs t
      obtain ⟨b, b0, e1⟩ := ha.least e q hb.mach.pos hQ
      obtain ⟨c, c0, e2⟩ := hb.least (fun z => e (hn.mpr z)) p ha.mach.pos hP
      have hc1 := nat_ge1 c0
      have hb1 := nat_ge1 b0
      have l1 := Rat.mul_le_mul_of_nonneg_left hb1 (Rat.le_of_lt ha.mach.pos)
      have l2 := Rat.mul_le_mul_of_nonneg_left hc1 (Rat.le_of_lt hb.mach.pos)
      rw [← e1] at l1
      rw [← e2] at l2
      exact Rat.le_antisymm (by grind) (by grind)
  subst ep
  rw [ha.mach.ext hb.mach h]
def goodq (p : Rat) (bs : List Beat) (q : Rat) : Bool := bs.all fun b => decide (look bs (if b.1 + q < p then b.1 + q else b.1 + q + -p) = b.2)
theorem good_iff {p : Rat} {bs : List Beat} (h : Mach p bs) {m : Nat} (hm : 0 < m) : goodq p bs (p / (m : Rat)) = true ↔ Per (snd p bs) (p / (m : Rat)) := by
  have hq := div_pos h.pos hm
  have hl := div_le h.pos hm
  have hd := div_nat (p := p) hm
  generalize p / (m : Rat) = q at hq hl hd ⊢
  have red : ∀ b ∈ bs, look bs (if b.1 + q < p then b.1 + q else b.1 + q + -p) = snd p bs (b.1 + q) := fun b hb => by
    have l := h.inn b hb
    by_cases c : b.1 + q < p
    · rw [if_pos c, snd_in (by grind) c]
    · have e1 := snd_per h.pos bs (b.1 + q + -p)
      rw [show b.1 + q + -p + p = b.1 + q from by grind] at e1
      rw [if_neg c, e1, snd_in (by grind) (by grind)]
  unfold goodq
  rw [List.all_eq_true]
  simp only [decide_eq_true_eq]
  constructor
  · intro hg
    have s1 : ∀ t, snd p bs t ≠ [] → snd p bs (t + q) = snd p bs t := fun t ht => by
      obtain ⟨z, e, r0, r1⟩ := rbey_split h.pos t
      have mem : (rbey t p, snd p bs t) ∈ bs := look_ne ht
      have := hg _ mem
      rw [red _ mem] at this
      simp only at this
      rw [← this]
      conv => lhs; rw [e]
      rw [show p * (z : Rat) + rbey t p + q = rbey t p + q + p * (z : Rat) from by grind, snd_add h.pos, this]
    have s2 : ∀ (k : Nat) (t : Rat), snd p bs t ≠ [] → snd p bs (t + q * (k : Rat)) = snd p bs t := fun k => by
      induction k with
      | zero => intro t _; rw [show ((0 : Nat) : Rat) = 0 from rfl, Rat.mul_zero, Rat.add_zero]
      | succ k ih =>
        intro t ht
        have e := ih t ht
        rw [nat_succ, show t + q * ((k : Rat) + 1) = t + q * (k : Rat) + q from by grind, s1 _ (by rw [e]; exact ht), e]
    intro t
    by_cases ht : snd p bs t = []
    · by_cases hu : snd p bs (t + q) = []
      · rw [ht, hu]
      · have := s2 (m - 1) _ hu
        have em : ((m : Nat) : Rat) = ((m - 1 : Nat) : Rat) + 1 := by
          rw [← nat_succ, Nat.sub_add_cancel hm]
        rw [show t + q + q * ((m - 1 : Nat) : Rat) = t + p from by rw [← hd, em]; grind, snd_per h.pos, ht] at this
        exact absurd this.symm hu
    · exact s1 t ht
  · intro hP b hb
    rw [red b hb, hP]
    have l := h.inn b hb
    rw [snd_in l.1 l.2.1]
    exact look_mem h.asc hb
def ups (n : Nat) : List Nat := (List.range (n - 1)).map fun i => i + 2
def lawLeast (p : Rat) (bs : List Beat) : Rat × List Beat := if bs = [] then (1, []) else (ups bs.length).foldl (fun best (m : Nat) => if goodq p bs (p / (m : Rat)) then (p / (m : Rat), blk (p / (m : Rat)) bs) else best) (p, bs)
theorem fold_last {β : Type} (c : Nat → Bool) (g : Nat → β) (a : β) : ∀ k : Nat,
    (((List.range k).map fun i => i + 2).foldl (fun best m => if c m then g m else best) a = a ∧ ∀ m, 2 ≤ m → m < k + 2 → c m = false) ∨
    ∃ m, 2 ≤ m ∧ m < k + 2 ∧ c m = true ∧ (∀ j, m < j → j < k + 2 → c j = false) ∧ ((List.range k).map fun i => i + 2).foldl (fun best m => if c m then g m else best) a = g m
  | 0 => .inl ⟨rfl, fun m h1 h2 => by omega⟩
  | k + 1 => by
    rw [List.range_succ, List.map_append, List.foldl_append, List.map_singleton, List.foldl_cons, List.foldl_nil]
    cases hc : c (k + 2) with
    | true =>
      rw [if_pos rfl]
      exact .inr ⟨k + 2, by omega, by omega, hc, fun j h1 h2 => by omega, rfl⟩
    | false =>
      rw [if_neg Bool.false_ne_true]
      rcases fold_last c g a k with ⟨e, h⟩ | ⟨m, h1, h2, h3, h4, e⟩
      · refine .inl ⟨e, fun m l1 l2 => ?_⟩
        by_cases q : m = k + 2
        · rw [q, hc]
        · exact h m l1 (by omega)
      · refine .inr ⟨m, h1, by omega, h3, fun j l1 l2 => ?_, e⟩
        by_cases q : j = k + 2
        · rw [q, hc]
        · exact h4 j l1 (by omega)
theorem div_one (p : Rat) : p / ((1 : Nat) : Rat) = p := by
  have := div_nat (p := p) (m := 1) (by decide)
  have e1 : ((1 : Nat) : Rat) = 1 := rfl
  rw [e1] at this ⊢
  rw [Rat.mul_one] at this
  exact this
theorem blk_all {p : Rat} {bs : List Beat} (h : Mach p bs) : blk p bs = bs := List.filter_eq_self.mpr fun b hb => decide_eq_true (h.inn b hb).2.1
theorem lawLeast_ok {p : Rat} {bs : List Beat} (h : Mach p bs) : lawLeast p bs = leastForm p bs := by
  by_cases hn : bs = []
  · subst hn
    rw [leastForm_nil]
    unfold lawLeast
    rw [if_pos rfl]
  · obtain ⟨m, m0, m1, hP, hmax, e⟩ := leastForm_some h hn
    have l0 : 0 < bs.length := List.length_pos_iff.mpr hn
    rw [e]
    unfold lawLeast ups
    rw [if_neg hn]
    rcases fold_last (fun m => goodq p bs (p / (m : Rat))) (fun m : Nat => (p / (m : Rat), blk (p / (m : Rat)) bs)) (p, bs) (bs.length - 1) with ⟨e2, g⟩ | ⟨k, k2, k3, gk, g, e2⟩
    · rw [e2]
      have : m = 1 := by
        rcases Nat.lt_or_ge m 2 with l | l
        · omega
        · have q := g m l (by omega)
          have := (good_iff h m0).mpr hP
          rw [this] at q
          cases q
      rw [this, div_one, blk_all h]
    · rw [e2]
      have hPk := (good_iff h (m := k) (by omega)).mp gk
      have := hmax k (by omega) hPk
      have : m = k := by
        rcases Nat.lt_or_ge k m with l | l
        · have q := g m l (by omega)
          have := (good_iff h m0).mpr hP
          rw [this] at q
          cases q
        · omega
      rw [this]
end BP
set_option Elab.async false
set_option linter.all false
set_option maxRecDepth 100000
set_option maxHeartbeats 4000000
namespace MX
open PySem BR
/-- the draws' row: the script, a place in it, a seed, a rest -/
def rowOf (ns : List Int) (i s r : Int) : SO := .lst [.scr ns, .int i, .int s, .int r]
def RowOk (ns : List Int) (o : SO) : Prop := ∃ i s r, o = rowOf ns i s r ∧ 0 ≤ i ∧ 0 ≤ s ∧ s < 2147483647
/-- _law_taken -/
def bTaken (call : CallT) : SM := sSeq (sIf (tVal (eOp2 pGt (eOp2S pIdxS (eVar 0) (eC (.int 3))) (eC (.int 0)))) (sSeq (sSet 3 (fVal (eOp2 pMod (eOpN nInt (aCons (eOp2S pIdxS (eVar 0) (eC (.int 3))) (aNil))) (eVar 1)))) (sSeq (sSetIxL (eVar 0) (eOp2 pDiv (eOp2S pIdxS (eVar 0) (eC (.int 3))) (eVar 1)) (eC (.int 3))) (sRet (fVal (eVar 3))))) (sNil)) (sSeq (sSetIxL (eVar 0) (eOp2 pAdd (eOp2S pIdxS (eVar 0) (eC (.int 1))) (eC (.int 1))) (eC (.int 1))) (sSeq (sIf (tVal (eOp2 pGt (eOp2S pIdxS (eVar 0) (eC (.int 1))) (eOp1S nLenS (eOp2S pIdxS (eVar 0) (eC (.int 0)))))) (sSeq (sSetIxL (eVar 0) (eOp2 pMod (eOpN nInt (aCons (eOp2 pAdd (eOp2 pMul (eOp2S pIdxS (eVar 0) (eC (.int 2))) (eC (.int 48271))) (eC (.int 11))) (aNil))) (eC (.int 2147483647))) (eC (.int 2))) (sRet (fVal (eOp2 pMod (eOpN nInt (aCons (eOp2 pDiv (eOp2S pIdxS (eVar 0) (eC (.int 2))) (eC (.int 7))) (aNil))) (eVar 1))))) (sNil)) (sSeq (sSet 2 (fVal (eOp2S pIdxS (eOp2S pIdxS (eVar 0) (eC (.int 0))) (eOp2 pSub (eOp2S pIdxS (eVar 0) (eC (.int 1))) (eC (.int 1)))))) (sSeq (sSetIxL (eVar 0) (eOp2 pMod (eOpN nInt (aCons (eOp2 pAdd (eOp2 pAdd (eOp2 pMul (eOp2S pIdxS (eVar 0) (eC (.int 2))) (eC (.int 48271))) (eVar 2)) (eC (.int 11))) (aNil))) (eC (.int 2147483647))) (eC (.int 2))) (sSeq (sIf (tVal (eOp2 pGe (eVar 2) (eOp2 pPow (eC (.int 10)) (eC (.int 18))))) (sSetIxL (eVar 0) (eOp2 pDiv (eVar 2) (eVar 1)) (eC (.int 3))) (sNil)) (sRet (fVal (eOp2 pMod (eOpN nInt (aCons (eVar 2) (aNil))) (eVar 1)))))))))
def fnTaken : Fn := ⟨2, 4, none, bTaken⟩
theorem pow1018 : pPow (.int 10) (.int 18) = some (.int 1000000000000000000) := by
  unfold pPow
  simp
theorem taken_ok {T : Nat → Option Fn} {k id : Nat} (hT : T id = some fnTaken) {ns : List Int} {o : SO} {rest : Store} {m : Int} (hm : 0 < m) (hm2 : m < 2 ^ 62) (h : RowOk ns o) :
    ∃ v o', runFn T (k + 1) id [.ref 0, .int m] (o :: rest) = .ok (.val (.int v)) (o' :: rest) ∧ 0 ≤ v ∧ v < m ∧ RowOk ns o' := by
  obtain ⟨i, s, r, e, hi, hs0, hs1⟩ := h
  subst e
  have sm : small m = true := small_of (by omega) hm2
  have md : ∀ x : Int, 0 ≤ x % m ∧ x % m < m := fun x => ⟨Int.emod_nonneg _ (by omega), Int.emod_lt_of_pos _ hm⟩
  rw [run_fn hT rfl]
  unfold bTaken rowOf
  by_cases hr : 0 < r
  · refine ⟨r % m, rowOf ns i s (r / m), ?_, (md r).1, (md r).2, ⟨i, s, r / m, rfl, hi, hs0, hs1⟩⟩
    simp [hr, pMod_int hm, pDiv_int hm sm, rowOf]
  · have ss : small s = true := small_of hs0 (by omega)
    have s4 : small 48271 = true := by decide
    have s7 : small 7 = true := by decide
    have mds : ∀ x : Int, 0 ≤ x % 2147483647 ∧ x % 2147483647 < 2147483647 := fun x => ⟨Int.emod_nonneg _ (by omega), Int.emod_lt_of_pos _ (by omega)⟩
    have b0 : (0 : Int) < 2147483647 := by decide
    have b7 : (0 : Int) < 7 := by decide
    by_cases hn : i + 1 ≤ ns.length
    · have hg : ¬ (ns.length : Int) < i + 1 := by omega
      have ha : L2.atI ns i = some ns[i.toNat]! := by
        rw [atI_at hi (by omega), List.getElem?_eq_getElem (by omega), getElem!_pos ns i.toNat (by omega)]
      generalize hc : ns[i.toNat]! = c at ha
      have i1 : i + 1 - 1 = i := by omega
      by_cases hb : (1000000000000000000 : Int) ≤ c
      · refine ⟨c % m, rowOf ns (i + 1) ((s * 48271 + c + 11) % 2147483647) (c / m), ?_, (md c).1, (md c).2, ⟨_, _, _, rfl, by omega, (mds _).1, (mds _).2⟩⟩
        simp [hr, hg, ha, i1, hb, pow1018, pMul_int ss s4, pMod_int b0, pMod_int hm, pDiv_int hm sm, rowOf]
      · refine ⟨c % m, rowOf ns (i + 1) ((s * 48271 + c + 11) % 2147483647) r, ?_, (md c).1, (md c).2, ⟨_, _, _, rfl, by omega, (mds _).1, (mds _).2⟩⟩
        simp [hr, hg, ha, i1, hb, pow1018, pMul_int ss s4, pMod_int b0, pMod_int hm, pDiv_int hm sm, rowOf]
    · have hg : (ns.length : Int) < i + 1 := by omega
      refine ⟨((s * 48271 + 11) % 2147483647 / 7) % m, rowOf ns (i + 1) ((s * 48271 + 11) % 2147483647) r, ?_, (md _).1, (md _).2, ⟨_, _, _, rfl, by omega, (mds _).1, (mds _).2⟩⟩
      simp [hr, hg, pMul_int ss s4, pMod_int b0, pMod_int hm, pDiv_int b7 s7, rowOf]
end MX
set_option Elab.async false
set_option linter.all false
set_option maxRecDepth 100000
set_option maxHeartbeats 4000000
namespace BP
open BR PySem
section
variable {T : Nat → Option Fn} {k : Nat} {st : Store}
theorem gcd_turn4 {c : BM} {b : SM} {u v : SV} (hc : ∀ (x y : Nat), c [u, v, .val (.int x), .val (.int y)] st = .ok (decide (0 < y)) st)
    (hb : ∀ (x y : Nat), 0 < y → b [u, v, .val (.int x), .val (.int y)] st = .next [u, v, .val (.int y), .val (.int ((x % y : Nat) : Int))] st) :
    ∀ (n : Nat) (x y : Nat), y < n → whileGo c b n [u, v, .val (.int x), .val (.int y)] st = .next [u, v, .val (.int (Nat.gcd x y)), .val (.int 0)] st
  | 0, _, _, h => absurd h (Nat.not_lt_zero _)
  | n + 1, x, y, h => by
    rw [whileGo_succ, hc, bindS_ok]
    by_cases hy : 0 < y
    · have lt : x % y < y := Nat.mod_lt _ hy
      rw [decide_eq_true hy, if_pos rfl, hb x y hy, loop_next, gcd_turn4 hc hb n y (x % y) (by omega), Nat.gcd_comm y, ← Nat.gcd_rec, Nat.gcd_comm]
    · have e : y = 0 := by omega
      subst e
      rw [decide_eq_false hy, if_neg Bool.false_ne_true, Nat.gcd_zero_right]
      rfl
theorem lfrac_ok (h : Has T [161]) (hk : 0 < k) {n p : Int} (hp : 0 < p) (hp2 : p.natAbs < 2 ^ 9000) : runFn T k 161 [.int n, .int p] st = .ok (.val (fr (Rat.divInt n p))) st := by
  rw [run_at (h.at 161) hk]
  unfold b161
  have e := gcd_turn4 (st := st) (u := .val (.int n)) (v := .val (.int p)) (c := tVal (eOp2 pGt (eVar 3) (eC (.int 0)))) (b := sPar 2 3 (fVal (eVar 3)) (fVal (eOp2 pMod (eVar 2) (eVar 3))))
    (fun x y => by simp) (fun x y hy => by
      have h0 : (0 : Int) < y := by omega
      simp [pMod_int h0]) fuel n.natAbs p.natAbs (Nat.lt_of_lt_of_le hp2 fuel_ge)
  have g := gcd_le (n := n) hp
  have sg : small (Int.gcd n p : Int) = true := small_nat (Nat.lt_of_le_of_lt (by omega) hp2)
  have ea : (p.natAbs : Int) = p := Int.natAbs_of_nonneg (by omega)
  have eg : ((Nat.gcd n.natAbs p.natAbs : Nat) : Int) = (Int.gcd n p : Nat) := rfl
  rw [eg, ea] at e
  generalize hG : (Int.gcd n p : Nat) = G at e g sg
  have ed := fr_div (n := n) hp
  rw [hG] at ed
  simp [nAbs_int, sWhile, e, pDiv_int g.1 sg, ed]
variable {a b : Rat}
theorem lsum_ok (h : Has T [161, 162]) (hk : 1 < k) (ha : Fit 4000 a) (hb : Fit 4000 b) : runFn T k 162 [fr a, fr b] st = .ok (.val (fr (a + b))) st := by
  rw [run_at (h.at 162) (by omega)]
  have e := lfrac_ok (k := k - 1) (st := st) (T := T) h.sub (by omega) (n := a.num * b.den + b.num * a.den) (p := a.den * b.den) (Int.mul_pos (den_pos' a) (den_pos' b))
    (by
      rw [← Int.natCast_mul, Int.natAbs_natCast]
      exact Nat.lt_of_lt_of_le (lt_mul ha.2 hb.2) (by decide +kernel))
  rw [← Int.natCast_mul, Rat.divInt_ofNat, ← Rat.add_def', Int.natCast_mul] at e
  unfold b162
  simp [e, pMul_int (ha.sn (by decide)) (hb.sd (by decide)), pMul_int (hb.sn (by decide)) (ha.sd (by decide)), pMul_int (ha.sd (by decide)) (hb.sd (by decide))]
theorem ltimes_ok (h : Has T [161, 163]) (hk : 1 < k) (ha : Fit 4000 a) (hb : Fit 4000 b) : runFn T k 163 [fr a, fr b] st = .ok (.val (fr (a * b))) st := by
  rw [run_at (h.at 163) (by omega)]
  have e := lfrac_ok (k := k - 1) (st := st) (T := T) h.sub (by omega) (n := a.num * b.num) (p := a.den * b.den) (Int.mul_pos (den_pos' a) (den_pos' b))
    (by
      rw [← Int.natCast_mul, Int.natAbs_natCast]
      exact Nat.lt_of_lt_of_le (lt_mul ha.2 hb.2) (by decide +kernel))
  rw [← Int.natCast_mul, Rat.divInt_ofNat, ← Rat.mul_def', Int.natCast_mul] at e
  unfold b163
  simp [e, pMul_int (ha.sn (by decide)) (hb.sn (by decide)), pMul_int (ha.sd (by decide)) (hb.sd (by decide))]
theorem lless_ok (h : Has T [164]) (hk : 0 < k) (ha : Fit 9000 a) (hb : Fit 9000 b) : runFn T k 164 [fr a, fr b] st = .ok (.val (.bl (decide (a < b)))) st := by
  rw [run_at (h.at 164) (by omega)]
  unfold b164
  simp [Rat.lt_iff, pMul_int (ha.sn (by decide)) (hb.sd (by decide)), pMul_int (hb.sn (by decide)) (ha.sd (by decide))]
theorem fr_neg0 (q : Rat) : PV.tup [.int (-q.num), .int (q.den : Int)] = fr (-q) := rfl
theorem fr_inv {q : Rat} (h : 0 < q) : PV.tup [.int (q.den : Int), .int q.num] = fr q⁻¹ := by
  have hn := num_pos h
  unfold fr
  rw [Rat.num_inv, Rat.den_inv, Int.sign_eq_one_of_pos hn, Int.one_mul, if_neg (by omega), Int.natAbs_of_nonneg (by omega)]
theorem fr_inv_nat {m : Nat} (h : 0 < m) : PV.tup [.int 1, .int (m : Int)] = fr (m : Rat)⁻¹ := fr_inv (nat_pos h)
theorem fit_inv {n : Nat} {q : Rat} (h : Fit n q) (h0 : 0 < q) : Fit n q⁻¹ := by
  have hn := num_pos h0
  refine ⟨?_, ?_⟩
  · rw [Rat.num_inv, Int.sign_eq_one_of_pos hn, Int.one_mul, Int.natAbs_natCast]
    exact h.2
  · rw [Rat.den_inv, if_neg (by omega)]
    exact h.1
theorem fit_nat {m n : Nat} (h : m < 2 ^ n) (h0 : 0 < n) : Fit n (m : Rat) := fit_int (n := (m : Int)) (by simpa using h) h0
theorem forGo_st {α : Type} {g : GM} {body : SM} (b : α → PV) (ys : List α) (Q : List α → BR.Env → Store → Prop)
    (h : ∀ pre y post ρ st, ys = pre ++ y :: post → Q pre ρ st → ∃ ρ1 st1 ρ2 st2, g (b y) ρ st = some (ρ1, st1) ∧ (body ρ1 st1 = .next ρ2 st2 ∨ body ρ1 st1 = .cnt ρ2 st2) ∧ Q (pre ++ [y]) ρ2 st2) {ρ : BR.Env} {st : Store} (q : Q [] ρ st) :
    ∃ ρ' st', forGo g body (ys.map b) ρ st = .next ρ' st' ∧ Q ys ρ' st' := by
  suffices ∀ (post pre : List α) (ρ : BR.Env) (st : Store), ys = pre ++ post → Q pre ρ st → ∃ ρ' st', forGo g body (post.map b) ρ st = .next ρ' st' ∧ Q ys ρ' st' from this ys [] ρ st rfl q
  intro post
  induction post with
  | nil =>
    intro pre ρ st e q
    rw [List.append_nil] at e
    exact ⟨ρ, st, rfl, by rw [e]; exact q⟩
  | cons y post ih =>
    intro pre ρ st e q
    obtain ⟨ρ1, st1, ρ2, st2, h1, h2, h3⟩ := h pre y post ρ st e q
    obtain ⟨ρ', st', e', q'⟩ := ih (pre ++ [y]) ρ2 st2 (by rw [e, List.append_assoc]; rfl) h3
    refine ⟨ρ', st', ?_, q'⟩
    rw [List.map_cons, forGo_cons h1]
    rcases h2 with h2 | h2
    · rw [h2, loop_next, e']
    · rw [h2, loop_cnt, e']
end
end BP
set_option Elab.async false
set_option linter.all false
set_option maxRecDepth 100000
set_option maxHeartbeats 4000000
namespace BP
open BR PySem
section
variable {T : Nat → Option Fn} {k : Nat} {st : Store}
theorem pEq_str {a b : List Nat} (ha : Txt a) (hb : Txt b) : pEq (.str a) (.str b) = some (.bl (decide (a = b))) := by
  unfold pEq
  have h1 : BR.plain 8 (.str a) = true := by unfold BR.plain; exact ha
  have h2 : BR.plain 8 (.str b) = true := by unfold BR.plain; exact hb
  rw [h1, h2]
  rfl
/-- a tuple or a list of beats -/
structure BeatsPV (B : PV) (bs : List Beat) : Prop where
  it : itemsOf B = some (bs.map bt)
  len : ∀ st, nLenS B st = some (.int bs.length)
  tup : nTuple [B] = some (.tup (bs.map bt))
  dct : Apart bs → nDict [B] = some (.dct (bs.map fun b => fr b.1) (bs.map fun b => .str b.2))
theorem nDict_bt2 {bs : List Beat} (h : Apart bs) : nDict [.lst (bs.map bt)] = some (.dct (bs.map fun b => fr b.1) (bs.map fun b => .str b.2)) := nDict_bt h
theorem beats_tup (bs : List Beat) : BeatsPV (.tup (bs.map bt)) bs := ⟨rfl, fun st => by rw [nLenS_tup, List.length_map], rfl, nDict_bt⟩
theorem beats_lst (bs : List Beat) : BeatsPV (.lst (bs.map bt)) bs := ⟨rfl, fun st => by rw [nLenS_lst, List.length_map], rfl, nDict_bt2⟩
theorem dget_ok {ρ : BR.Env} {m n : EM} {bs : List Beat} {t : Rat} (h1 : m ρ st = .ok (.dct (bs.map fun b => fr b.1) (bs.map fun b => .str b.2)) st) (h2 : n ρ st = .ok (fr t) st) :
    eDGet m n (eC (.str [])) ρ st = .ok (.str (look bs t)) st := by
  unfold eDGet
  rw [h1, bind_ok]
  simp only
  rw [h2, bind_ok, eC_ev, bind_ok, kok_fr, if_pos rfl, dGet_bt]
theorem fold_and {α : Type} (p : α → Bool) : ∀ (l : List α) (b : Bool), l.foldl (fun g x => g && p x) b = (b && l.all p)
  | [], b => by simp
  | x :: l, b => by rw [List.foldl_cons, fold_and p l, List.all_cons, Bool.and_assoc]
def inGood (call : CallT) : SM := sSeq (sSet 9 (fVal (eFrz (fCall call 162 (aCons (eVar 7) (aCons (eVar 5) (aNil))))))) (sSeq (sIf (tNot (tVal (eFrz (fCall call 164 (aCons (eVar 9) (aCons (eVar 0) (aNil))))))) (sSet 9 (fVal (eFrz (fCall call 162 (aCons (eVar 9) (aCons (eTup (aCons (eOp2 pSub (eC (.int 0)) (eOp2S pIdxS (eVar 0) (eC (.int 0)))) (aCons (eOp2S pIdxS (eVar 0) (eC (.int 1))) (aNil)))) (aNil))))))) (sNil)) (sSet 6 (fVal (eAnd (eVar 6) (eOp2 pEq (eDGet (eVar 3) (eVar 9) (eC (.str []))) (eVar 8))))))
def dctB (bs : List Beat) : PV := .dct (bs.map fun b => fr b.1) (bs.map fun b => .str b.2)
theorem inGood_ok (h : Has T [161, 162, 164]) (hk : 1 < k) {p q : Rat} {bs : List Beat} (hp : Fit 1000 p) (hq : Fit 1000 q) {b : Beat} (fb : Fit 900 b.1) (tb : Txt b.2) (tbs : ∀ b ∈ bs, Txt b.2) {B s2 c4 c9 c10 : SV} {g : Bool} :
    inGood (runFn T k) [.val (fr p), B, s2, .val (dctB bs), c4, .val (fr q), .val (.bl g), .val (fr b.1), .val (.str b.2), c9, c10] st =
      .next [.val (fr p), B, s2, .val (dctB bs), c4, .val (fr q), .val (.bl (g && decide (look bs (if b.1 + q < p then b.1 + q else b.1 + q + -p) = b.2))), .val (fr b.1), .val (.str b.2), .val (fr (if b.1 + q < p then b.1 + q else b.1 + q + -p)), c10] st := by
  have e1 := lsum_ok (k := k) (st := st) (T := T) h.sub hk (fb.mono (by decide)) (hq.mono (by decide))
  have f1 := fit_add fb hq
  have e2 := lless_ok (k := k) (st := st) (T := T) h.sub (by omega) (f1.mono (by decide)) (hp.mono (by decide))
  have fn : Fit 1000 (-p) := ⟨by rw [Rat.neg_num, Int.natAbs_neg]; exact hp.1, hp.2⟩
  have e3 := lsum_ok (k := k) (st := st) (T := T) h.sub hk (f1.mono (by decide)) (fn.mono (by decide))
  have zn : PV.tup [.int (0 - p.num), .int (p.den : Int)] = fr (-p) := by rw [Int.zero_sub]; exact fr_neg0 p
  unfold inGood
  have tail : ∀ w : Rat, sSet 6 (fVal (eAnd (eVar 6) (eOp2 pEq (eDGet (eVar 3) (eVar 9) (eC (.str []))) (eVar 8)))) [.val (fr p), B, s2, .val (dctB bs), c4, .val (fr q), .val (.bl g), .val (fr b.1), .val (.str b.2), .val (fr w), c10] st =
      .next [.val (fr p), B, s2, .val (dctB bs), c4, .val (fr q), .val (.bl (g && decide (look bs w = b.2))), .val (fr b.1), .val (.str b.2), .val (fr w), c10] st := fun w => by
    have d1 := dget_ok (st := st) (ρ := [.val (fr p), B, s2, .val (dctB bs), c4, .val (fr q), .val (.bl g), .val (fr b.1), .val (.str b.2), .val (fr w), c10]) (m := eVar 3) (n := eVar 9) (bs := bs) (t := w) rfl rfl
    have q1 := pEq_str (look_txt (t := w) tbs) tb
    cases g with
    | true => simp [d1, q1]
    | false => simp
  by_cases c : b.1 + q < p
  · rw [if_pos c]
    rw [decide_eq_true c] at e2
    have t := tail (b.1 + q)
    rw [sSeq_ev, show sSet 9 (fVal (eFrz (fCall (runFn T k) 162 (aCons (eVar 7) (aCons (eVar 5) (aNil)))))) [.val (fr p), B, s2, .val (dctB bs), c4, .val (fr q), .val (.bl g), .val (fr b.1), .val (.str b.2), c9, c10] st = .next [.val (fr p), B, s2, .val (dctB bs), c4, .val (fr q), .val (.bl g), .val (fr b.1), .val (.str b.2), .val (fr (b.1 + q)), c10] st from by simp [e1], seq_next]
    rw [sSeq_ev, show sIf (tNot (tVal (eFrz (fCall (runFn T k) 164 (aCons (eVar 9) (aCons (eVar 0) (aNil))))))) (sSet 9 (fVal (eFrz (fCall (runFn T k) 162 (aCons (eVar 9) (aCons (eTup (aCons (eOp2 pSub (eC (.int 0)) (eOp2S pIdxS (eVar 0) (eC (.int 0)))) (aCons (eOp2S pIdxS (eVar 0) (eC (.int 1))) (aNil)))) (aNil))))))) (sNil) [.val (fr p), B, s2, .val (dctB bs), c4, .val (fr q), .val (.bl g), .val (fr b.1), .val (.str b.2), .val (fr (b.1 + q)), c10] st = .next [.val (fr p), B, s2, .val (dctB bs), c4, .val (fr q), .val (.bl g), .val (fr b.1), .val (.str b.2), .val (fr (b.1 + q)), c10] st from by simp [e2], seq_next]
    exact t
  · rw [if_neg c]
    rw [decide_eq_false c] at e2
    have t := tail (b.1 + q + -p)
    rw [sSeq_ev, show sSet 9 (fVal (eFrz (fCall (runFn T k) 162 (aCons (eVar 7) (aCons (eVar 5) (aNil)))))) [.val (fr p), B, s2, .val (dctB bs), c4, .val (fr q), .val (.bl g), .val (fr b.1), .val (.str b.2), c9, c10] st = .next [.val (fr p), B, s2, .val (dctB bs), c4, .val (fr q), .val (.bl g), .val (fr b.1), .val (.str b.2), .val (fr (b.1 + q)), c10] st from by simp [e1], seq_next]
    rw [sSeq_ev, show sIf (tNot (tVal (eFrz (fCall (runFn T k) 164 (aCons (eVar 9) (aCons (eVar 0) (aNil))))))) (sSet 9 (fVal (eFrz (fCall (runFn T k) 162 (aCons (eVar 9) (aCons (eTup (aCons (eOp2 pSub (eC (.int 0)) (eOp2S pIdxS (eVar 0) (eC (.int 0)))) (aCons (eOp2S pIdxS (eVar 0) (eC (.int 1))) (aNil)))) (aNil))))))) (sNil) [.val (fr p), B, s2, .val (dctB bs), c4, .val (fr q), .val (.bl g), .val (fr b.1), .val (.str b.2), .val (fr (b.1 + q)), c10] st = .next [.val (fr p), B, s2, .val (dctB bs), c4, .val (fr q), .val (.bl g), .val (fr b.1), .val (.str b.2), .val (fr (b.1 + q + -p)), c10] st from by simp [e2, -Int.zero_sub, zn, e3], seq_next]
    exact t
theorem ups_pv {n : Nat} (h0 : 0 < n) (hn : n ≤ lim) : rng2 (.int 2) (.int ((n : Int) + 1)) = some ((ups n).map fun m : Nat => PV.int (m : Int)) := by
  have hlim : lim = 1000000 := rfl
  rw [rng2_nums (by decide) (by omega)]
  unfold ups nums
  rw [List.map_map, List.map_map, show ((n : Int) + 1 - 2).toNat = n - 1 from by omega]
  refine congrArg some (List.map_congr_left fun a _ => ?_)
  simp only [Function.comp_apply, PV.int.injEq]
  omega
theorem mem_ups {n m : Nat} : m ∈ ups n ↔ 2 ≤ m ∧ m ≤ n := by
  unfold ups
  rw [List.mem_map]
  constructor
  · rintro ⟨i, hi, rfl⟩
    have := List.mem_range.mp hi
    omega
  · rintro ⟨h0, h1⟩
    exact ⟨m - 2, List.mem_range.mpr (by omega), by omega⟩
theorem lleast_ok {id : Nat} (hT : T id = some fn185) (h : Has T [161, 162, 163, 164]) (hk : 2 < k) {p : Rat} {bs : List Beat} {B : PV} (hB : BeatsPV B bs) (ha : Apart bs) (hp : Fit 900 p) (hb : ∀ b ∈ bs, Fit 900 b.1 ∧ Txt b.2) (hl : bs.length ≤ lim) :
    runFn T k id [fr p, B] st = .ok (.val (lf (lawLeast p bs))) st := by
  have hlim : lim = 1000000 := rfl
  rw [run_at hT (by omega)]
  unfold lawLeast
  by_cases hn : bs = []
  · subst hn
    rw [if_pos rfl]
    have e1 := hB.len st
    unfold b185 lf
    simp [e1]
    rfl
  · rw [if_neg hn]
    have l0 : 0 < bs.length := List.length_pos_iff.mpr hn
    have e1 := hB.len st
    have e2 := hB.tup
    have e3 := hB.dct ha
    have e4 := ups_pv l0 hl
    have n0 : ¬ (bs.length : Int) = 0 := by omega
    have turn : ∀ (m : Nat) (best : Rat × List Beat) (c4 c5 c6 c7 c8 c9 c10 : SV), m ∈ ups bs.length → ∃ ρ2, (sSeq (sSet 5 (fVal (eFrz (fCall (runFn T (k - 1)) 163 (aCons (eVar 0) (aCons (eTup (aCons (eC (.int 1)) (aCons (eVar 4) (aNil)))) (aNil))))))) (sSeq (sSet 6 (fVal (eC (.bl true)))) (sSeq (sFor (wItems (eVar 1)) (gTup [gName 7, gName 8]) (inGood (runFn T (k - 1)))) (sIf (tVal (eVar 6)) (sSet 2 (fVal (eTup (aCons (eVar 5) (aCons (eOpN nTuple (aCons (eFrz (fLc (wItems (eVar 1)) [10] (gName 10) (tVal (eFrz (fCall (runFn T (k - 1)) 164 (aCons (eOp2S pIdxS (eVar 10) (eC (.int 0))) (aCons (eVar 5) (aNil)))))) (eVar 10))) (aNil))) (aNil)))))) (sNil))))) [.val (fr p), .val B, .val (lf best), .val (dctB bs), .val (.int (m : Int)), c5, c6, c7, c8, c9, c10] st = .next ρ2 st ∧
        ∃ d4 d5 d6 d7 d8 d9 d10, ρ2 = [.val (fr p), .val B, .val (lf (if goodq p bs (p / (m : Rat)) then (p / (m : Rat), blk (p / (m : Rat)) bs) else best)), .val (dctB bs), d4, d5, d6, d7, d8, d9, d10] := by
      intro m best c4 c5 c6 c7 c8 c9 c10 hm
      have hm := mem_ups.mp hm
      have fm : Fit 20 (m : Rat) := fit_nat (by omega) (by decide)
      have fi := fit_inv fm (nat_pos (by omega))
      have e5 := ltimes_ok (k := k - 1) (st := st) (T := T) h.sub (by omega) (hp.mono (by decide)) (fi.mono (by decide))
      have fq : Fit 1000 (p / (m : Rat)) := (fit_mul hp fi).mono (by decide)
      rw [← fr_inv_nat (by omega), ← Rat.div_def] at e5
      generalize p / (m : Rat) = q at e5 fq ⊢
      obtain ⟨ρ', e6, d7, d8, d9, rfl⟩ := forGo_rel (st := st) (g := gTup [gName 7, gName 8]) (body := inGood (runFn T (k - 1))) bt
        (fun (g : Bool) ρ => ∃ d7 d8 d9, ρ = [.val (fr p), .val B, .val (lf best), .val (dctB bs), .val (.int (m : Int)), .val (fr q), .val (.bl g), d7, d8, d9, c10])
        (fun g b => g && decide (look bs (if b.1 + q < p then b.1 + q else b.1 + q + -p) = b.2)) bs true [.val (fr p), .val B, .val (lf best), .val (dctB bs), .val (.int (m : Int)), .val (fr q), .val (.bl true), c7, c8, c9, c10]
        ⟨_, _, _, rfl⟩ (by
          rintro g _ b hb' ⟨d7, d8, d9, rfl⟩
          exact ⟨_, _, rfl, .inl (inGood_ok (k := k - 1) (T := T) (st := st) h.sub (by omega) (hp.mono (by decide)) fq (hb b hb').1 (hb b hb').2 fun c hc => (hb c hc).2), _, _, _, rfl⟩)
      rw [fold_and, Bool.true_and] at e6
      have eg : (bs.all fun b => decide (look bs (if b.1 + q < p then b.1 + q else b.1 + q + -p) = b.2)) = goodq p bs q := rfl
      rw [eg] at e6
      have e7 := fLc_of (st := st) (ρ := [.val (fr p), .val B, .val (lf best), .val (dctB bs), .val (.int (m : Int)), .val (fr q), .val (.bl true), d7, d8, d9, c10]) (w := wItems (eVar 1)) (own := [10]) (g := gName 10)
        (t := tVal (eFrz (fCall (runFn T (k - 1)) 164 (aCons (eOp2S pIdxS (eVar 10) (eC (.int 0))) (aCons (eVar 5) (aNil)))))) (e := eVar 10) bt (fun b => decide (b.1 < q)) bt bs (by simp [hB.it]) hl
        (fun b hb' => ⟨[.val (fr p), .val B, .val (lf best), .val (dctB bs), .val (.int (m : Int)), .val (fr q), .val (.bl true), d7, d8, d9, .val (bt b)], rfl, by
          have e8 := lless_ok (k := k - 1) (st := st) (T := T) h.sub (by omega) ((hb b hb').1.mono (by decide)) (fq.mono (by decide))
          have p0 : pIdxS (bt b) (.int 0) st = some (fr b.1) := rfl
          simp [p0, e8], fun _ => rfl⟩)
      have nt : nTuple [.lst ((bs.filter fun b => decide (b.1 < q)).map bt)] = some (.tup ((blk q bs).map bt)) := rfl
      have s1 : sSet 5 (fVal (eFrz (fCall (runFn T (k - 1)) 163 (aCons (eVar 0) (aCons (eTup (aCons (eC (.int 1)) (aCons (eVar 4) (aNil)))) (aNil)))))) [.val (fr p), .val B, .val (lf best), .val (dctB bs), .val (.int (m : Int)), c5, c6, c7, c8, c9, c10] st = .next [.val (fr p), .val B, .val (lf best), .val (dctB bs), .val (.int (m : Int)), .val (fr q), c6, c7, c8, c9, c10] st := by simp [e5]
      have s3 : sFor (wItems (eVar 1)) (gTup [gName 7, gName 8]) (inGood (runFn T (k - 1))) [.val (fr p), .val B, .val (lf best), .val (dctB bs), .val (.int (m : Int)), .val (fr q), .val (.bl true), c7, c8, c9, c10] st = .next [.val (fr p), .val B, .val (lf best), .val (dctB bs), .val (.int (m : Int)), .val (fr q), .val (.bl (goodq p bs q)), d7, d8, d9, c10] st := by
        rw [sFor_ev, show wItems (eVar 1) [.val (fr p), .val B, .val (lf best), .val (dctB bs), .val (.int (m : Int)), .val (fr q), .val (.bl true), c7, c8, c9, c10] st = .ok (bs.map bt) st from by simp [hB.it], bindS_ok]
        exact e6
      rw [sSeq_ev, s1, seq_next, sSeq_ev, show sSet 6 (fVal (eC (.bl true))) [.val (fr p), .val B, .val (lf best), .val (dctB bs), .val (.int (m : Int)), .val (fr q), c6, c7, c8, c9, c10] st = .next [.val (fr p), .val B, .val (lf best), .val (dctB bs), .val (.int (m : Int)), .val (fr q), .val (.bl true), c7, c8, c9, c10] st from rfl, seq_next, sSeq_ev, s3, seq_next]
      cases hg : goodq p bs q with
      | false => exact ⟨_, rfl, _, _, _, _, _, _, _, rfl⟩
      | true =>
        refine ⟨[.val (fr p), .val B, .val (lf (q, blk q bs)), .val (dctB bs), .val (.int (m : Int)), .val (fr q), .val (.bl true), d7, d8, d9, c10], ?_, _, _, _, _, _, _, _, rfl⟩
        have s4 : eOpN nTuple (aCons (eFrz (fLc (wItems (eVar 1)) [10] (gName 10) (tVal (eFrz (fCall (runFn T (k - 1)) 164 (aCons (eOp2S pIdxS (eVar 10) (eC (.int 0))) (aCons (eVar 5) (aNil)))))) (eVar 10))) (aNil)) [.val (fr p), .val B, .val (lf best), .val (dctB bs), .val (.int (m : Int)), .val (fr q), .val (.bl true), d7, d8, d9, c10] st = .ok (.tup ((blk q bs).map bt)) st := by
          rw [eOpN_ev, aCons_ev, eFrz_ev, e7, bind_ok, kFrz_ev, toPV_own, ofOpt_some, bind_ok, kCons_ev, aNil_ev, bind_ok, kCons2_ev, bind_ok, kOptN_ev, nt, ofOpt_some]
        simp [-eOpN_ev, s4]
        rfl
    obtain ⟨ρ', e5, d4, d5, d6, d7, d8, d9, d10, rfl⟩ := forGo_rel (st := st) (g := gName 4) (body := sSeq (sSet 5 (fVal (eFrz (fCall (runFn T (k - 1)) 163 (aCons (eVar 0) (aCons (eTup (aCons (eC (.int 1)) (aCons (eVar 4) (aNil)))) (aNil))))))) (sSeq (sSet 6 (fVal (eC (.bl true)))) (sSeq (sFor (wItems (eVar 1)) (gTup [gName 7, gName 8]) (inGood (runFn T (k - 1)))) (sIf (tVal (eVar 6)) (sSet 2 (fVal (eTup (aCons (eVar 5) (aCons (eOpN nTuple (aCons (eFrz (fLc (wItems (eVar 1)) [10] (gName 10) (tVal (eFrz (fCall (runFn T (k - 1)) 164 (aCons (eOp2S pIdxS (eVar 10) (eC (.int 0))) (aCons (eVar 5) (aNil)))))) (eVar 10))) (aNil))) (aNil)))))) (sNil)))))
      (fun m : Nat => PV.int (m : Int)) (fun best ρ => ∃ d4 d5 d6 d7 d8 d9 d10, ρ = [.val (fr p), .val B, .val (lf best), .val (dctB bs), d4, d5, d6, d7, d8, d9, d10])
      (fun best m => if goodq p bs (p / (m : Rat)) then (p / (m : Rat), blk (p / (m : Rat)) bs) else best) (ups bs.length) (p, bs) [.val (fr p), .val B, .val (lf (p, bs)), .val (dctB bs), .un, .un, .un, .un, .un, .un, .un] ⟨_, _, _, _, _, _, _, rfl⟩
      (by
        rintro best _ m hm ⟨d4, d5, d6, d7, d8, d9, d10, rfl⟩
        obtain ⟨ρ2, e, hρ⟩ := turn m best d4 d5 d6 d7 d8 d9 d10 hm
        exact ⟨_, _, rfl, .inl e, hρ⟩)
    have s1 : sIf (tVal (eOp2 pEq (eOp1S nLenS (eVar 1)) (eC (.int 0)))) (sRet (fVal (eTup (aCons (eTup (aCons (eC (.int 1)) (aCons (eC (.int 1)) (aNil)))) (aCons (eTup (aNil)) (aNil)))))) (sNil) [.val (fr p), .val B, .un, .un, .un, .un, .un, .un, .un, .un, .un] st = .next [.val (fr p), .val B, .un, .un, .un, .un, .un, .un, .un, .un, .un] st := by simp [e1, n0, hn]
    have s2 : sSet 2 (fVal (eTup (aCons (eVar 0) (aCons (eOpN nTuple (aCons (eVar 1) (aNil))) (aNil))))) [.val (fr p), .val B, .un, .un, .un, .un, .un, .un, .un, .un, .un] st = .next [.val (fr p), .val B, .val (lf (p, bs)), .un, .un, .un, .un, .un, .un, .un, .un] st := by simp [e2, lf]
    have s3 : sSet 3 (fVal (eOpN nDict (aCons (eVar 1) (aNil)))) [.val (fr p), .val B, .val (lf (p, bs)), .un, .un, .un, .un, .un, .un, .un, .un] st = .next [.val (fr p), .val B, .val (lf (p, bs)), .val (dctB bs), .un, .un, .un, .un, .un, .un, .un] st := by simp [e3, dctB]
    have s4 : wRng2 (eC (.int 2)) (eOp2 pAdd (eOp1S nLenS (eVar 1)) (eC (.int 1))) [.val (fr p), .val B, .val (lf (p, bs)), .val (dctB bs), .un, .un, .un, .un, .un, .un, .un] st = .ok ((ups bs.length).map fun m : Nat => PV.int (m : Int)) st := by
      have e6 : eOp2 pAdd (eOp1S nLenS (eVar 1)) (eC (.int 1)) [.val (fr p), .val B, .val (lf (p, bs)), .val (dctB bs), .un, .un, .un, .un, .un, .un, .un] st = .ok (.int ((bs.length : Int) + 1)) st := by simp [e1]
      rw [wRng2_ev, eC_ev, bind_ok, kLs2_ev, e6, bind_ok, kLs_ev, e4, ofOpt_some]
    unfold inGood at e5
    unfold b185
    show BR.finish (sSeq _ _ [.val (fr p), .val B, .un, .un, .un, .un, .un, .un, .un, .un, .un] st) = _
    rw [sSeq_ev, s1, seq_next, sSeq_ev, s2, seq_next, sSeq_ev, s3, seq_next, sSeq_ev, sFor_ev, s4, bindS_ok, kFor_ev, e5, seq_next]
    rfl
end
end BP
set_option Elab.async false
set_option linter.all false
set_option maxRecDepth 100000
set_option maxHeartbeats 4000000
namespace BP
open BR PySem
section
variable {T : Nat → Option Fn} {k : Nat} {st : Store}
def bwIn (call : CallT) : SM := sSeq (sSet 9 (fVal (eFrz (fCall call 162 (aCons (eFrz (fCall call 163 (aCons (eVar 4) (aCons (eTup (aCons (eVar 6) (aCons (eC (.int 1)) (aNil)))) (aNil))))) (aCons (eVar 7) (aNil))))))) (sIf (tAnd (tNot (tVal (eFrz (fCall call 164 (aCons (eVar 9) (aCons (eVar 1) (aNil))))))) (tVal (eFrz (fCall call 164 (aCons (eVar 9) (aCons (eVar 2) (aNil))))))) (sApp 3 (eTup (aCons (eVar 9) (aCons (eVar 8) (aNil))))) (sNil))
theorem hits_append (p : Rat) (as bs : List Beat) (s e : Rat) (t : Int) : hits p (as ++ bs) s e t = hits p as s e t ++ hits p bs s e t := by
  unfold hits
  rw [List.map_append, List.filter_append]
theorem hits_one (p : Rat) (b : Beat) (s e : Rat) (t : Int) : hits p [b] s e t = if !decide (p * t + b.1 < s) && decide (p * t + b.1 < e) then [(p * t + b.1, b.2)] else [] := by
  unfold hits
  simp only [List.map_cons, List.map_nil, List.filter_cons, List.filter_nil]
theorem bwIn_ok (h : Has T [161, 162, 163, 164]) (hk : 1 < k) {p s e : Rat} {t : Int} {b : Beat} {acc : List Beat} (hp : Fit 900 p) (ht : Fit 90 (t : Rat)) (fb : Fit 900 b.1) (hs : Fit 1000 s) (he : Fit 1000 e) (hl : acc.length + (hits p [b] s e t).length ≤ lim) {m0 c5 c9 : SV} :
    ∃ d9, bwIn (runFn T k) [m0, .val (fr s), .val (fr e), .own (acc.map bt), .val (fr p), c5, .val (.int t), .val (fr b.1), .val (.str b.2), c9] st =
      .next [m0, .val (fr s), .val (fr e), .own ((acc ++ hits p [b] s e t).map bt), .val (fr p), c5, .val (.int t), .val (fr b.1), .val (.str b.2), d9] st := by
  have e6 := ltimes_ok (k := k) (st := st) (T := T) h.sub hk (hp.mono (by decide)) (ht.mono (by decide))
  rw [← fr_int] at e6
  have fpt := fit_mul hp ht
  have e8 := lsum_ok (k := k) (st := st) (T := T) h.sub hk (fpt.mono (by decide)) (fb.mono (by decide))
  have fh := fit_add fpt fb
  have e9 := lless_ok (k := k) (st := st) (T := T) h.sub (by omega) (fh.mono (by decide)) (hs.mono (by decide))
  have e10 := lless_ok (k := k) (st := st) (T := T) h.sub (by omega) (fh.mono (by decide)) (he.mono (by decide))
  rw [hits_one] at hl ⊢
  unfold bwIn
  generalize p * (t : Rat) = pt at *
  generalize pt + b.1 = w at *
  refine ⟨.val (fr w), ?_⟩
  cases hc1 : decide (w < s) with
  | true =>
    rw [hc1] at e9
    simp [e6, e8, e9]
  | false =>
    rw [hc1] at e9 hl
    cases hc2 : decide (w < e) with
    | false =>
      rw [hc2] at e10
      simp [e6, e8, e9, e10]
    | true =>
      rw [hc2] at e10 hl
      simp only [Bool.not_false, Bool.and_self, if_true, List.length_singleton] at hl
      have ka := kApp_ev (ρ := [m0, .val (fr s), .val (fr e), .own (acc.map bt), .val (fr p), c5, .val (.int t), .val (fr b.1), .val (.str b.2), .val (fr w)]) (st := st) (i := 3) (xs := acc.map bt) (p := PV.tup [fr w, .str b.2]) (by rw [List.length_map]; omega)
      simp [e6, e8, e9, e10, ka, bt]
def bwB (call : CallT) : SM := sSeq (sFor (wItems (eOp2S pIdxS (eVar 0) (eC (.int 1)))) (gTup [gName 7, gName 8]) (bwIn call)) (sSet 6 (fVal (eOp2 pAdd (eVar 6) (eC (.int 1)))))
theorem bwB_ok (h : Has T [161, 162, 163, 164]) (hk : 1 < k) {p s e : Rat} {t : Int} {bs acc : List Beat} (hp : Fit 900 p) (ht : Fit 90 (t : Rat)) (fb : ∀ b ∈ bs, Fit 900 b.1) (hs : Fit 1000 s) (he : Fit 1000 e) (hl : acc.length + (hits p bs s e t).length ≤ lim) {c5 c7 c8 c9 : SV} :
    ∃ d7 d8 d9, bwB (runFn T k) [.val (lf (p, bs)), .val (fr s), .val (fr e), .own (acc.map bt), .val (fr p), c5, .val (.int t), c7, c8, c9] st =
      .next [.val (lf (p, bs)), .val (fr s), .val (fr e), .own ((acc ++ hits p bs s e t).map bt), .val (fr p), c5, .val (.int (t + 1)), d7, d8, d9] st := by
  obtain ⟨ρ', e1, d7, d8, d9, rfl⟩ := forGo_pre (st := st) (g := gTup [gName 7, gName 8]) (body := bwIn (runFn T k)) bt bs
    (fun pr ρ => ∃ d7 d8 d9, ρ = [.val (lf (p, bs)), .val (fr s), .val (fr e), .own ((acc ++ hits p pr s e t).map bt), .val (fr p), c5, .val (.int t), d7, d8, d9])
    (by
      rintro pr b po _ hy ⟨d7, d8, d9, rfl⟩
      have hh := hits_append p pr [b] s e t
      have hlb : (hits p (pr ++ [b]) s e t).length ≤ (hits p bs s e t).length := by
        rw [hy, show pr ++ b :: po = (pr ++ [b]) ++ po from by simp, hits_append p (pr ++ [b]), List.length_append]
        omega
      obtain ⟨d9', e2⟩ := bwIn_ok (k := k) (st := st) (T := T) h hk (acc := acc ++ hits p pr s e t) hp ht (fb b (by rw [hy]; simp)) hs he (by rw [hh] at hlb; rw [List.length_append] at hlb ⊢; omega) (m0 := .val (lf (p, bs))) (c5 := c5) (c9 := d9)
      refine ⟨_, _, rfl, .inl e2, _, _, _, by rw [hh, List.append_assoc]⟩) (ρ := [.val (lf (p, bs)), .val (fr s), .val (fr e), .own (acc.map bt), .val (fr p), c5, .val (.int t), c7, c8, c9]) ⟨c7, c8, c9, by unfold hits; simp⟩
  refine ⟨d7, d8, d9, ?_⟩
  have ei : wItems (eOp2S pIdxS (eVar 0) (eC (.int 1))) [.val (lf (p, bs)), .val (fr s), .val (fr e), .own (acc.map bt), .val (fr p), c5, .val (.int t), c7, c8, c9] st = .ok (bs.map bt) st := rfl
  unfold bwB
  rw [sSeq_ev, sFor_ev, ei, bindS_ok, kFor_ev, e1, seq_next]
  rfl
theorem bw_loop (h : Has T [161, 162, 163, 164]) (hk : 1 < k) {p s e : Rat} {bs : List Beat} (hz : 0 < p) (hp : Fit 900 p) (fb : ∀ b ∈ bs, Fit 900 b.1) (hs : Fit 1000 s) (he : Fit 1000 e) {c5 : SV} :
    ∀ (N : Nat) (t : Int) (acc : List Beat) (n : Nat) (c7 c8 c9 : SV), N < n → ((e / p).ceil - t).toNat = N → -(2 ^ 62) ≤ t → t + N < 2 ^ 63 → acc.length + ((nums t N).flatMap (hits p bs s e)).length ≤ lim →
    ∃ c6 d7 d8 d9, whileGo (tVal (eFrz (fCall (runFn T k) 164 (aCons (eFrz (fCall (runFn T k) 163 (aCons (eVar 4) (aCons (eTup (aCons (eVar 6) (aCons (eC (.int 1)) (aNil)))) (aNil))))) (aCons (eVar 2) (aNil)))))) (bwB (runFn T k)) n [.val (lf (p, bs)), .val (fr s), .val (fr e), .own (acc.map bt), .val (fr p), c5, .val (.int t), c7, c8, c9] st =
      .next [.val (lf (p, bs)), .val (fr s), .val (fr e), .own ((acc ++ (nums t N).flatMap (hits p bs s e)).map bt), .val (fr p), c5, c6, d7, d8, d9] st
  | N, t, acc, 0, _, _, _, hn, _, _, _, _ => absurd hn (Nat.not_lt_zero _)
  | N, t, acc, n + 1, c7, c8, c9, hn, hN, h1, h2, hl => by
    have ft : Fit 90 (t : Rat) := fit_int (by omega) (by decide)
    have e6 := ltimes_ok (k := k) (st := st) (T := T) h.sub hk (hp.mono (by decide)) (ft.mono (by decide))
    rw [← fr_int] at e6
    have fpt := fit_mul hp ft
    have e9 := lless_ok (k := k) (st := st) (T := T) h.sub (by omega) (fpt.mono (by decide)) (he.mono (by decide))
    have ec : tVal (eFrz (fCall (runFn T k) 164 (aCons (eFrz (fCall (runFn T k) 163 (aCons (eVar 4) (aCons (eTup (aCons (eVar 6) (aCons (eC (.int 1)) (aNil)))) (aNil))))) (aCons (eVar 2) (aNil))))) [.val (lf (p, bs)), .val (fr s), .val (fr e), .own (acc.map bt), .val (fr p), c5, .val (.int t), c7, c8, c9] st = .ok (decide (p * (t : Rat) < e)) st := by
      simp [e6, e9]
    have hlt : p * (t : Rat) < e ↔ t < (e / p).ceil := by rw [Rat.lt_ceil_iff, Rat.lt_div_iff' hz]
    rw [whileGo_succ, ec, bindS_ok]
    cases N with
    | zero =>
      have : ¬ p * (t : Rat) < e := by rw [hlt]; omega
      rw [decide_eq_false this, if_neg Bool.false_ne_true]
      refine ⟨.val (.int t), c7, c8, c9, ?_⟩
      have : nums t 0 = [] := rfl
      rw [this, List.flatMap_nil, List.append_nil]
    | succ N =>
      have : p * (t : Rat) < e := by rw [hlt]; omega
      have en : nums t (N + 1) = t :: nums (t + 1) N := by
        unfold nums
        rw [List.range_succ_eq_map, List.map_cons, List.map_map]
        congr 1
        · simp
        · apply List.map_congr_left
          intro a _
          simp only [Function.comp_apply]
          omega
      rw [en, List.flatMap_cons, List.length_append] at hl
      rw [decide_eq_true this, if_pos rfl]
      obtain ⟨d7, d8, d9, e2⟩ := bwB_ok (k := k) (st := st) (T := T) h hk (acc := acc) (bs := bs) hp ft fb hs he (by omega) (c5 := c5) (c7 := c7) (c8 := c8) (c9 := c9)
      rw [e2, loop_next]
      obtain ⟨c6, f7, f8, f9, e3⟩ := bw_loop h hk hz hp fb hs he (c5 := c5) N (t + 1) (acc ++ hits p bs s e t) n d7 d8 d9 (by omega) (by omega) (by omega) (by omega) (by rw [List.length_append]; omega)
      refine ⟨c6, f7, f8, f9, ?_⟩
      rw [e3, en, List.flatMap_cons, List.append_assoc]
theorem lbetween_ok {id : Nat} (hT : T id = some fn186) (h : Has T [161, 162, 163, 164]) (hk : 2 < k) {p s e : Rat} {bs : List Beat} (hz : 0 < p) (hp : Fit 900 p) (fb : ∀ b ∈ bs, Fit 900 b.1) (hs : Fit 900 s) (he : Fit 900 e)
    (h1 : -(2 ^ 62) ≤ (s / p).floor ∧ (s / p).floor < 2 ^ 62) (h2 : -(2 ^ 62) ≤ (e / p).ceil ∧ (e / p).ceil < 2 ^ 62) (hl : (betw p bs s e).length ≤ lim) :
    runFn T k id [lf (p, bs), fr s, fr e] st = .ok (.own ((betw p bs s e).map bt)) st := by
  rw [run_at hT (by omega)]
  have fi := fit_inv hp hz
  have e5 := ltimes_ok (k := k - 1) (st := st) (T := T) h.sub (by omega) (hs.mono (by decide)) (fi.mono (by decide))
  have fq : Fit 1800 (s / p) := fit_mul hs fi
  rw [← fr_inv hz, ← Rat.div_def] at e5
  have pd : pDiv (.int (s / p).num) (.int ((s / p).den : Int)) = some (.int (s / p).floor) := by rw [pDiv_int (den_pos' _) (fq.sd (by decide)), Rat.floor_def]
  have e0 : pIdxS (lf (p, bs)) (.int 0) st = some (fr p) := rfl
  obtain ⟨c6, d7, d8, d9, e6⟩ := bw_loop (k := k - 1) (st := st) (T := T) h (by omega) hz hp fb (hs.mono (by decide)) (he.mono (by decide)) (c5 := .val (fr (s / p))) ((e / p).ceil - (s / p).floor).toNat (s / p).floor [] fuel .un .un .un
    (Nat.lt_of_lt_of_le (show _ < 2 ^ 64 from by omega) (Nat.le_trans (by decide +kernel) fuel_ge)) rfl h1.1 (by omega) (by rw [List.length_nil, Nat.zero_add]; exact hl)
  unfold bwB bwIn at e6
  unfold b186
  show BR.finish (sSeq _ _ [.val (lf (p, bs)), .val (fr s), .val (fr e), .un, .un, .un, .un, .un, .un, .un] st) = _
  rw [sSeq_ev, show sSet 3 (fLst (aNil)) [.val (lf (p, bs)), .val (fr s), .val (fr e), .un, .un, .un, .un, .un, .un, .un] st = .next [.val (lf (p, bs)), .val (fr s), .val (fr e), .own [], .un, .un, .un, .un, .un, .un] st from rfl, seq_next]
  rw [sSeq_ev, show sSet 4 (fVal (eOp2S pIdxS (eVar 0) (eC (.int 0)))) [.val (lf (p, bs)), .val (fr s), .val (fr e), .own [], .un, .un, .un, .un, .un, .un] st = .next [.val (lf (p, bs)), .val (fr s), .val (fr e), .own [], .val (fr p), .un, .un, .un, .un, .un] st from rfl, seq_next]
  rw [sSeq_ev, show sSet 5 (fVal (eFrz (fCall (runFn T (k - 1)) 163 (aCons (eVar 1) (aCons (eTup (aCons (eOp2S pIdxS (eVar 4) (eC (.int 1))) (aCons (eOp2S pIdxS (eVar 4) (eC (.int 0))) (aNil)))) (aNil)))))) [.val (lf (p, bs)), .val (fr s), .val (fr e), .own [], .val (fr p), .un, .un, .un, .un, .un] st = .next [.val (lf (p, bs)), .val (fr s), .val (fr e), .own [], .val (fr p), .val (fr (s / p)), .un, .un, .un, .un] st from by simp [e5], seq_next]
  rw [sSeq_ev, show sSet 6 (fVal (eOp2 pDiv (eOp2S pIdxS (eVar 5) (eC (.int 0))) (eOp2S pIdxS (eVar 5) (eC (.int 1))))) [.val (lf (p, bs)), .val (fr s), .val (fr e), .own [], .val (fr p), .val (fr (s / p)), .un, .un, .un, .un] st = .next [.val (lf (p, bs)), .val (fr s), .val (fr e), .own [], .val (fr p), .val (fr (s / p)), .val (.int (s / p).floor), .un, .un, .un] st from by simp [pd], seq_next]
  rw [sSeq_ev]
  unfold sWhile
  rw [show ([] : List PV) = ([] : List Beat).map bt from rfl, e6, seq_next, List.nil_append]
  rfl
end
end BP
set_option Elab.async false
set_option linter.all false
set_option maxRecDepth 100000
set_option maxHeartbeats 4000000
namespace BP
open BR PySem MX
def six : List (List Nat) := [[97], [98], [97, 98], [99], [97], [97, 100]]
def kb (P : Nat) (x : Nat × List Nat) : Beat := (Rat.divInt (x.1 : Int) (P : Int), x.2)
/-- a drawn rhythm -/
def Drawn (p : Rat) (bs : List Beat) : Prop := ∃ P N : Nat, 1 ≤ P ∧ P ≤ 4 ∧ 1 ≤ N ∧ N ≤ 8 ∧ p = Rat.divInt (N : Int) (P : Int) ∧ ∃ ks : List (Nat × List Nat), ks.Pairwise (fun a b => a.1 < b.1) ∧ (∀ x ∈ ks, x.1 < N ∧ x.2 ∈ six) ∧ bs = ks.map (kb P)
section
variable {T : Nat → Option Fn} {k : Nat}
theorem rng1_nat {n : Nat} (hn : n < 2 ^ 62) : rng1 (.int (n : Int)) = some ((List.range n).map fun i : Nat => PV.int (i : Int)) := by
  rw [rng1_nums (by omega)]
  unfold nums
  rw [List.map_map, Int.toNat_natCast]
  refine congrArg some (List.map_congr_left fun a _ => ?_)
  simp only [Function.comp_apply, PV.int.injEq]
  omega
def sixPV : PV := .lst [.str [97], .str [98], .str [97, 98], .str [99], .str [97], .str [97, 100]]
theorem six_at {v : Int} (h0 : 0 ≤ v) (h1 : v < 6) : ∃ s, s ∈ six ∧ pIdx sixPV (.int v) = some (.str s) := by
  have : v = 0 ∨ v = 1 ∨ v = 2 ∨ v = 3 ∨ v = 4 ∨ v = 5 := by omega
  rcases this with e | e | e | e | e | e <;> subst e
  · exact ⟨[97], by decide, rfl⟩
  · exact ⟨[98], by decide, rfl⟩
  · exact ⟨[97, 98], by decide, rfl⟩
  · exact ⟨[99], by decide, rfl⟩
  · exact ⟨[97], by decide, rfl⟩
  · exact ⟨[97, 100], by decide, rfl⟩
theorem ltaken_ok {id : Nat} (hT : T id = some fn183) (hk : 0 < k) {ns : List Int} {o : SO} {rest : Store} {m : Int} (h : RowOk ns o) (hm : 0 < m := by decide) (hm2 : m < 2 ^ 62 := by decide) :
    ∃ v o', runFn T k id [.ref 0, .int m] (o :: rest) = .ok (.val (.int v)) (o' :: rest) ∧ 0 ≤ v ∧ v < m ∧ RowOk ns o' := by
  obtain ⟨j, rfl⟩ : ∃ j, k = j + 1 := ⟨k - 1, by omega⟩
  exact taken_ok (hT.trans rfl) hm hm2 h
def rhB (call : CallT) : SM := sIf (tVal (eOp2 pEq (eFrz (fCall call 183 (aCons (eVar 0) (aCons (eC (.int 2)) (aNil))))) (eC (.int 0)))) (sSeq (sSet 5 (fVal (eOp2S pIdxS (eFrz (fLst (aCons (eC (.str [97])) (aCons (eC (.str [98])) (aCons (eC (.str [97, 98])) (aCons (eC (.str [99])) (aCons (eC (.str [97])) (aCons (eC (.str [97, 100])) (aNil))))))))) (eFrz (fCall call 183 (aCons (eVar 0) (aCons (eC (.int 6)) (aNil)))))))) (sApp 3 (eTup (aCons (eFrz (fCall call 161 (aCons (eVar 4) (aCons (eVar 1) (aNil))))) (aCons (eVar 5) (aNil)))))) (sNil)
theorem rhB_ok (hT : T 183 = some fn183) (h : Has T [161]) (hk : 0 < k) {ns : List Int} {o : SO} {rest : Store} (ho : RowOk ns o) {P N i : Nat} (P0 : 0 < P) (P1 : P ≤ 4) {ks : List (Nat × List Nat)} (hl : ks.length < lim) {c5 : SV} :
    ∃ ks' o' d5, rhB (runFn T k) [.val (.ref 0), .val (.int (P : Int)), .val (.int (N : Int)), .own (ks.map fun x => bt (kb P x)), .val (.int (i : Int)), c5] (o :: rest) =
      .next [.val (.ref 0), .val (.int (P : Int)), .val (.int (N : Int)), .own (ks'.map fun x => bt (kb P x)), .val (.int (i : Int)), d5] (o' :: rest) ∧ RowOk ns o' ∧ (ks' = ks ∨ ∃ s, s ∈ six ∧ ks' = ks ++ [(i, s)]) := by
  obtain ⟨v, o1, e1, v0, v1, h1⟩ := ltaken_ok (T := T) (k := k) hT hk (rest := rest) (m := 2) ho
  by_cases hv : v = 0
  · subst hv
    obtain ⟨w, o2, e2, w0, w1, h2⟩ := ltaken_ok (T := T) (k := k) hT hk (rest := rest) (m := 6) h1
    obtain ⟨s, hs, e3⟩ := six_at w0 w1
    have e4 := lfrac_ok (k := k) (st := o2 :: rest) (T := T) h hk (n := (i : Int)) (p := (P : Int)) (by omega) (by rw [Int.natAbs_natCast]; exact Nat.lt_of_lt_of_le (show P < 2 ^ 3 from by omega) (by decide +kernel))
    refine ⟨ks ++ [(i, s)], o2, .val (.str s), ?_, h2, .inr ⟨s, hs, rfl⟩⟩
    have e5 : eOp2S pIdxS (eFrz (fLst (aCons (eC (.str [97])) (aCons (eC (.str [98])) (aCons (eC (.str [97, 98])) (aCons (eC (.str [99])) (aCons (eC (.str [97])) (aCons (eC (.str [97, 100])) (aNil))))))))) (eFrz (fCall (runFn T k) 183 (aCons (eVar 0) (aCons (eC (.int 6)) (aNil))))) [.val (.ref 0), .val (.int (P : Int)), .val (.int (N : Int)), .own (ks.map fun x => bt (kb P x)), .val (.int (i : Int)), c5] (o1 :: rest) = .ok (.str s) (o2 :: rest) := by
      have e6 : pIdxS sixPV (.int w) (o2 :: rest) = some (.str s) := e3
      unfold sixPV at e6
      simp [-pIdxS_lst, e2, e6]
    have ka := kApp_ev (ρ := [.val (.ref 0), .val (.int (P : Int)), .val (.int (N : Int)), .own (ks.map fun x => bt (kb P x)), .val (.int (i : Int)), .val (.str s)]) (st := o2 :: rest) (i := 3) (xs := ks.map fun x => bt (kb P x)) (p := PV.tup [fr (Rat.divInt (i : Int) (P : Int)), .str s]) (by rw [List.length_map]; exact hl)
    unfold rhB
    simp [-Rat.divInt_ofNat, -eOp2S_ev, e1, e5, e4, ka]
    rfl
  · refine ⟨ks, o1, c5, ?_, h1, .inl rfl⟩
    unfold rhB
    simp [e1, hv]
theorem lrhythm_ok (h : Has T [161, 183, 184]) (hk : 1 < k) {ns : List Int} {o : SO} {rest : Store} (ho : RowOk ns o) :
    ∃ p bs o', runFn T k 184 [.ref 0] (o :: rest) = .ok (.own [fr p, .tup (bs.map bt)]) (o' :: rest) ∧ RowOk ns o' ∧ Drawn p bs := by
  have hlim : lim = 1000000 := rfl
  have hT : T 183 = some fn183 := h.at 183
  rw [run_at (h.at 184) (by omega)]
  obtain ⟨v, o1, e1, v0, v1, h1⟩ := ltaken_ok (T := T) (k := k - 1) hT (by omega) (rest := rest) (m := 4) ho
  obtain ⟨w, o2, e2, w0, w1, h2⟩ := ltaken_ok (T := T) (k := k - 1) hT (by omega) (rest := rest) (m := 8) h1
  obtain ⟨P, eP⟩ : ∃ P : Nat, (P : Int) = 1 + v := ⟨(1 + v).toNat, by omega⟩
  obtain ⟨N, eN⟩ : ∃ N : Nat, (N : Int) = 1 + w := ⟨(1 + w).toNat, by omega⟩
  obtain ⟨ρ', st', e3, ks, o3, c4, c5, rfl, rfl, h3, hp, hx, hl⟩ := forGo_st (g := gName 4) (body := rhB (runFn T (k - 1))) (fun i : Nat => PV.int (i : Int)) (List.range N)
    (fun pre ρ st => ∃ ks o' c4 c5, st = o' :: rest ∧ ρ = [.val (.ref 0), .val (.int (P : Int)), .val (.int (N : Int)), .own (ks.map fun x => bt (kb P x)), c4, c5] ∧ RowOk ns o' ∧ ks.Pairwise (fun a b => a.1 < b.1) ∧ (∀ x ∈ ks, x.1 ∈ pre ∧ x.2 ∈ six) ∧ ks.length ≤ pre.length)
    (by
      rintro pre i post _ _ hy ⟨ks, o', c4, c5, rfl, rfl, ho', hp, hx, hl⟩
      have lN := congrArg List.length hy
      rw [List.length_range, List.length_append, List.length_cons] at lN
      obtain ⟨ks', o3, d5, e, h3, hc⟩ := rhB_ok (T := T) (k := k - 1) hT h.sub (by omega) (rest := rest) ho' (P := P) (N := N) (i := i) (by omega) (by omega) (ks := ks) (by omega) (c5 := c5)
      refine ⟨_, _, _, _, rfl, .inl e, ks', o3, _, _, rfl, rfl, h3, ?_, ?_, ?_⟩
      · rcases hc with hc | ⟨s, hs, hc⟩
        · rw [hc]; exact hp
        · rw [hc]
          refine List.pairwise_append.mpr ⟨hp, List.pairwise_singleton _ _, fun a ha b hb => ?_⟩
          rw [List.mem_singleton.mp hb]
          have pr := List.pairwise_lt_range (n := N)
          rw [hy] at pr
          exact (List.pairwise_append.mp pr).2.2 _ (hx a ha).1 _ List.mem_cons_self
      · intro x hx'
        rcases hc with hc | ⟨s, hs, hc⟩
        · rw [hc] at hx'
          exact ⟨List.mem_append_left _ (hx x hx').1, (hx x hx').2⟩
        · rw [hc] at hx'
          rcases List.mem_append.mp hx' with q | q
          · exact ⟨List.mem_append_left _ (hx x q).1, (hx x q).2⟩
          · rw [List.mem_singleton.mp q]
            exact ⟨List.mem_append_right _ List.mem_cons_self, hs⟩
      · rw [List.length_append, List.length_singleton]
        rcases hc with hc | ⟨s, hs, hc⟩
        · rw [hc]; omega
        · rw [hc, List.length_append, List.length_singleton]; omega) (ρ := [.val (.ref 0), .val (.int (P : Int)), .val (.int (N : Int)), .own [], .un, .un]) (st := o2 :: rest)
    ⟨[], o2, .un, .un, rfl, rfl, h2, .nil, fun x hx => (nomatch hx), Nat.le_refl _⟩
  have e4 := lfrac_ok (k := k - 1) (st := o3 :: rest) (T := T) h.sub (by omega) (n := (N : Int)) (p := (P : Int)) (by omega) (by rw [Int.natAbs_natCast]; exact Nat.lt_of_lt_of_le (show P < 2 ^ 3 from by omega) (by decide +kernel))
  refine ⟨Rat.divInt N P, ks.map (kb P), o3, ?_, h3, P, N, by omega, by omega, by omega, by omega, rfl, ks, hp, fun x hx' => ⟨List.mem_range.mp (hx x hx').1, (hx x hx').2⟩, rfl⟩
  unfold rhB at e3
  unfold b184
  show BR.finish (sSeq _ _ [.val (.ref 0), .un, .un, .un, .un, .un] (o :: rest)) = _
  rw [sSeq_ev, show sSet 1 (fVal (eOp2 pAdd (eC (.int 1)) (eFrz (fCall (runFn T (k - 1)) 183 (aCons (eVar 0) (aCons (eC (.int 4)) (aNil))))))) [.val (.ref 0), .un, .un, .un, .un, .un] (o :: rest) = .next [.val (.ref 0), .val (.int (P : Int)), .un, .un, .un, .un] (o1 :: rest) from by simp [e1, eP], seq_next]
  rw [sSeq_ev, show sSet 2 (fVal (eOp2 pAdd (eC (.int 1)) (eFrz (fCall (runFn T (k - 1)) 183 (aCons (eVar 0) (aCons (eC (.int 8)) (aNil))))))) [.val (.ref 0), .val (.int (P : Int)), .un, .un, .un, .un] (o1 :: rest) = .next [.val (.ref 0), .val (.int (P : Int)), .val (.int (N : Int)), .un, .un, .un] (o2 :: rest) from by simp [e2, eN], seq_next]
  rw [sSeq_ev, show sSet 3 (fLst (aNil)) [.val (.ref 0), .val (.int (P : Int)), .val (.int (N : Int)), .un, .un, .un] (o2 :: rest) = .next [.val (.ref 0), .val (.int (P : Int)), .val (.int (N : Int)), .own [], .un, .un] (o2 :: rest) from rfl, seq_next]
  have er : wRng1 (eVar 2) [.val (.ref 0), .val (.int (P : Int)), .val (.int (N : Int)), .own [], .un, .un] (o2 :: rest) = .ok ((List.range N).map fun i : Nat => PV.int (i : Int)) (o2 :: rest) := by
    rw [wRng1_ev, show eVar 2 [.val (.ref 0), .val (.int (P : Int)), .val (.int (N : Int)), .own [], .un, .un] (o2 :: rest) = .ok (.int (N : Int)) (o2 :: rest) from rfl, bind_ok, kLs_ev, rng1_nat (by omega), ofOpt_some]
  rw [sSeq_ev, sFor_ev, er, bindS_ok, kFor_ev, e3, seq_next]
  have et : eTupOwn 3 [.val (.ref 0), .val (.int (P : Int)), .val (.int (N : Int)), .own (ks.map fun x => bt (kb P x)), c4, c5] (o3 :: rest) = .ok (.tup ((ks.map (kb P)).map bt)) (o3 :: rest) := by
    rw [List.map_map]
    rfl
  simp [-Rat.divInt_ofNat, e4, et]
end
end BP
set_option Elab.async false
set_option linter.all false
set_option maxRecDepth 100000
set_option maxHeartbeats 4000000
namespace BP
open BR PySem
theorem divInt_lt {i j : Int} {P : Nat} (hP : 0 < P) : Rat.divInt i (P : Int) < Rat.divInt j (P : Int) ↔ i < j := by
  have h0 := nat_pos hP
  have e : ∀ x : Int, Rat.divInt x (P : Int) * (P : Rat) = (x : Rat) := fun x => by
    rw [Rat.divInt_eq_div]
    exact div_nat hP
  rw [← Rat.mul_lt_mul_right h0, e, e, Rat.intCast_lt_intCast]
theorem divInt_zero' {P : Nat} : Rat.divInt 0 (P : Int) = 0 := by simp
theorem divInt_pos {i : Int} {P : Nat} (hP : 0 < P) : 0 < Rat.divInt i (P : Int) ↔ 0 < i := by
  have := divInt_lt (i := 0) (j := i) hP
  rwa [divInt_zero'] at this
theorem divInt_nonneg {i : Int} {P : Nat} (hP : 0 < P) (hi : 0 ≤ i) : 0 ≤ Rat.divInt i (P : Int) := by
  have := mt (divInt_lt (i := i) (j := 0) hP).mp (by omega)
  rw [divInt_zero'] at this
  exact Rat.not_lt.mp this
theorem six_ok {s : List Nat} (h : s ∈ six) : okLet s = true ∧ s ≠ [] ∧ Txt s ∧ s.length ≤ 2 := by
  unfold six at h
  simp only [List.mem_cons, List.not_mem_nil, or_false] at h
  rcases h with e | e | e | e | e | e <;> subst e <;> exact ⟨by decide, by decide, rfl, by decide⟩
theorem asc_len : ∀ (l : List Nat) (a n : Nat), l.Pairwise (fun a b => a < b) → (∀ x ∈ l, a ≤ x) → (∀ x ∈ l, x < n) → l.length ≤ n - a
  | [], _, _, _, _, _ => Nat.zero_le _
  | x :: xs, a, n, hp, h1, h2 => by
    obtain ⟨q1, q2⟩ := List.pairwise_cons.mp hp
    have := asc_len xs (x + 1) n q2 (fun y hy => q1 y hy) fun y hy => h2 y (List.mem_cons_of_mem _ hy)
    have := h1 x List.mem_cons_self
    have := h2 x List.mem_cons_self
    rw [List.length_cons]
    omega
theorem okLet_len {s : List Nat} (h : okLet s = true) : s.length ≤ 4 := by
  obtain ⟨_, h2, h3⟩ := (okLet_iff s).mp h
  have := asc_len s 97 101 h3 (fun x hx => by have := h2 x hx; simp only [List.mem_cons, List.not_mem_nil, or_false] at this; omega) (fun x hx => by have := h2 x hx; simp only [List.mem_cons, List.not_mem_nil, or_false] at this; omega)
  omega
/-- what the laws need of a period and beats -/
structure Tame (n : Nat) (p : Rat) (bs : List Beat) : Prop where
  pos : 0 < p
  asc : Asc1 bs
  inn : ∀ b ∈ bs, 0 ≤ b.1 ∧ b.1 < p ∧ okLet b.2 = true
  fp : Fit n p
  fb : ∀ b ∈ bs, Fit n b.1
  len : bs.length ≤ 1000
theorem okLet_ne {s : List Nat} (h : okLet s = true) : s ≠ [] := ((okLet_iff s).mp h).1
section
variable {n : Nat} {p : Rat} {bs : List Beat}
theorem Tame.mach (h : Tame n p bs) : Mach p bs := ⟨h.pos, h.asc, fun b hb => ⟨(h.inn b hb).1, (h.inn b hb).2.1, okLet_ne (h.inn b hb).2.2⟩⟩
theorem Tame.txt (h : Tame n p bs) : ∀ b ∈ bs, Txt b.2 := fun b hb => okLet_txt (h.inn b hb).2.2
theorem Tame.ok (h : Tame n p bs) : okBeats bs p = true := by
  unfold okBeats
  rw [List.all_eq_true.mpr fun b hb => ?_, zip_all (fun a b q => decide_eq_true q) h.asc, List.all_eq_true.mpr fun b hb => decide_eq_true (h.inn b hb).2.1]
  · rfl
  · unfold okBeat
    rw [decide_eq_true (h.inn b hb).1, (h.inn b hb).2.2]
    rfl
theorem Tame.bok (h : Tame n p bs) {m : Nat} (hm : n ≤ m) : BOk m bs := ⟨Nat.le_trans h.len (by decide), fun b hb => ⟨(h.fb b hb).mono hm, h.txt b hb, Nat.le_trans (okLet_len (h.inn b hb).2.2) (by decide)⟩⟩
theorem Tame.apart (h : Tame n p bs) : Apart bs := Pairwise_apart h.asc
theorem Tame.mono (h : Tame n p bs) {m : Nat} (hm : n ≤ m) : Tame m p bs := ⟨h.pos, h.asc, h.inn, h.fp.mono hm, fun b hb => (h.fb b hb).mono hm, h.len⟩
theorem Tame.least (h : Tame n p bs) : Tame (n + 10) (leastForm p bs).1 (leastForm p bs).2 := by
  by_cases hn : bs = []
  · subst hn
    rw [leastForm_nil]
    exact ⟨one_pos, .nil, fun b hb => (nomatch hb), ⟨Nat.one_lt_two_pow (by omega), Nat.one_lt_two_pow (by omega)⟩, fun b hb => (nomatch hb), Nat.zero_le _⟩
  · obtain ⟨m, m0, m1, _, _, e⟩ := leastForm_some h.mach hn
    have hl := h.len
    rw [e]
    have q := blk_mach h.mach (div_pos h.pos m0)
    have fm : Fit 10 (m : Rat) := fit_nat (by omega) (by decide)
    have mem : ∀ b ∈ blk (p / (m : Rat)) bs, b ∈ bs := fun b hb => (List.mem_filter.mp hb).1
    exact ⟨q.pos, q.asc, fun b hb => ⟨(q.inn b hb).1, (q.inn b hb).2.1, (h.inn b (mem b hb)).2.2⟩, fit_over h.fp fm (fun e => by have := nat_pos m0; rw [e] at this; exact Rat.lt_irrefl this), fun b hb => (h.fb b (mem b hb)).mono (by omega), Nat.le_trans (List.length_filter_le _ _) h.len⟩
end
theorem Drawn.tame {p : Rat} {bs : List Beat} (h : Drawn p bs) : Tame 10 p bs ∧ bs.length ≤ 8 ∧ 1 ≤ p * 4 := by
  obtain ⟨P, N, P0, P1, N0, N1, ep, ks, hp, hx, eb⟩ := h
  subst ep eb
  have l8 : ks.length ≤ 8 := by
    have hn : (ks.map (·.1)).Pairwise (fun a b => a < b) := List.pairwise_map.mpr hp
    have := asc_len (ks.map (·.1)) 0 N hn (fun x _ => Nat.zero_le _) (fun x hx' => by
      obtain ⟨y, hy, rfl⟩ := List.mem_map.mp hx'
      exact (hx y hy).1)
    rw [List.length_map] at this
    omega
  have mem : ∀ b ∈ ks.map (kb P), ∃ i s, i < N ∧ s ∈ six ∧ b = (Rat.divInt ((i : Nat) : Int) (P : Int), s) := fun b hb => by
    obtain ⟨y, hy, rfl⟩ := List.mem_map.mp hb
    exact ⟨y.1, y.2, (hx y hy).1, (hx y hy).2, rfl⟩
  have asc : Asc1 (ks.map (kb P)) := List.pairwise_map.mpr (hp.imp fun {a b} l => (divInt_lt (by omega)).mpr (by omega))
  have fit : ∀ i : Nat, i ≤ 8 → Fit 10 (Rat.divInt (i : Int) (P : Int)) := fun i hi => fit_div (by rw [Int.natAbs_natCast]; omega) (by rw [Int.natAbs_natCast]; omega) (by omega)
  refine ⟨⟨(divInt_pos (by omega)).mpr (by omega), asc, fun b hb => ?_, fit N (by omega), fun b hb => ?_, by rw [List.length_map]; omega⟩, by rw [List.length_map]; exact l8, ?_⟩
  · obtain ⟨i, s, hi, hs, rfl⟩ := mem b hb
    exact ⟨divInt_nonneg (by omega) (by omega), (divInt_lt (by omega)).mpr (by omega), (six_ok hs).1⟩
  · obtain ⟨i, s, hi, hs, rfl⟩ := mem b hb
    exact fit i (by omega)
  · have e : Rat.divInt (N : Int) (P : Int) * (P : Rat) = (N : Rat) := by
      rw [Rat.divInt_eq_div]
      exact div_nat (by omega)
    have h1 := nat_ge1 (m := N) (by omega)
    have h4 : (P : Rat) ≤ ((4 : Nat) : Rat) := Rat.natCast_le_natCast.mpr P1
    have hpos := (divInt_pos (i := (N : Int)) (P := P) (by omega)).mpr (by omega)
    have := Rat.mul_le_mul_of_nonneg_left h4 (Rat.le_of_lt hpos)
    have e4 : ((4 : Nat) : Rat) = 4 := rfl
    rw [e, e4] at this
    exact Rat.le_trans h1 this
end BP
set_option Elab.async false
set_option linter.all false
set_option maxRecDepth 100000
set_option maxHeartbeats 4000000
namespace BP
open BR PySem
section
variable {T : Nat → Option Fn} {k : Nat} {st : Store} {n : Nat} {p q : Rat} {as bs : List Beat}
theorem eqvs_bt : ∀ (xs ys : List Beat), eqvs (xs.map bt) (ys.map bt) = decide (xs = ys)
  | [], [] => rfl
  | [], y :: ys => by simp [eqvs]
  | x :: xs, [] => by simp [eqvs]
  | x :: xs, y :: ys => by
    rw [List.map_cons, List.map_cons]
    show (eqv (bt x) (bt y) && eqvs (xs.map bt) (ys.map bt)) = _
    rw [eqv_bt, eqvs_bt xs ys, ← Bool.decide_and]
    exact decide_eq_decide.mpr ⟨fun ⟨h1, h2⟩ => by rw [h1, h2], fun h => by cases h; exact ⟨rfl, rfl⟩⟩
theorem plain_bt' {x : Beat} (m : Nat) (h : Txt x.2) : plain (m + 2) (bt x) = true := by
  show (true && true && true && (x.2.all (fun c => decide (c < 1114112)) && true)) = true
  rw [show x.2.all (fun c => decide (c < 1114112)) = true from h]
  rfl
theorem plains_bt' (m : Nat) : ∀ {acc : List Beat}, (∀ x ∈ acc, Txt x.2) → plains (m + 2) (acc.map bt) = true
  | [], _ => by unfold plains; rfl
  | x :: acc, h => by
    rw [List.map_cons]
    unfold plains
    rw [plain_bt' m (h x List.mem_cons_self), plains_bt' m fun y hy => h y (List.mem_cons_of_mem _ hy)]
    rfl
abbrev Txts (bs : List Beat) : Prop := ∀ b ∈ bs, Txt b.2
theorem pEq_of {a b : PV} (ha : plain 8 a = true) (hb : plain 8 b = true) : pEq a b = some (.bl (eqv a b)) := by
  unfold pEq
  rw [ha, hb]
  rfl
theorem pNe_of {a b : PV} (ha : plain 8 a = true) (hb : plain 8 b = true) : pNe a b = some (.bl (!eqv a b)) := by
  unfold pNe
  rw [ha, hb]
  rfl
theorem plain_lst (m : Nat) (h : Txts as) : plain (m + 3) (.lst (as.map bt)) = true := plains_bt' m h
theorem pEq_lst (ha : Txts as) (hb : Txts bs) : pEq (.lst (as.map bt)) (.lst (bs.map bt)) = some (.bl (decide (as = bs))) := by
  rw [pEq_of (plain_lst 5 ha) (plain_lst 5 hb)]
  exact congrArg (fun x => some (PV.bl x)) (eqvs_bt as bs)
variable {ρ : BR.Env} {st1 st2 : Store} {m1 m2 : EM}
theorem ceil_le {x : Rat} {z : Int} (h : x ≤ (z : Rat)) : x.ceil ≤ z := Rat.ceil_le_iff.mpr h
theorem turns_le {s e : Rat} {N : Nat} (hp : 0 < p) (h : e ≤ s + p * (N : Rat)) : ((e / p).ceil - (s / p).floor).toNat ≤ N + 1 := by
  have h1 := floor_mul (t := s) hp
  have h2 : e / p ≤ (((s / p).floor + 1 + (N : Int) : Int) : Rat) := by
    refine Rat.not_lt.mp fun q => ?_
    rw [Rat.lt_div_iff' hp, Rat.intCast_add, Rat.intCast_add] at q
    have e1 : ((1 : Int) : Rat) = 1 := rfl
    have e2 : ((N : Int) : Rat) = (N : Rat) := rfl
    rw [e1, e2] at q
    grind
  have := ceil_le h2
  omega
end
end BP
set_option Elab.async false
set_option linter.all false
set_option maxRecDepth 100000
set_option maxHeartbeats 4000000
namespace BP
open BR PySem
section
variable {p q s e : Rat} {as bs : List Beat}
theorem int_succ_le {z y : Int} (h : z < y) : (z : Rat) + 1 ≤ (y : Rat) := by
  have := Rat.intCast_le_intCast.mpr (show z + 1 ≤ y from h)
  rwa [int_succ] at this
theorem betw_asc (h : Mach p bs) : Asc1 (betw p bs s e) := by
  unfold betw Asc1
  rw [List.pairwise_flatMap]
  refine ⟨fun t ht => ?_, ?_⟩
  · unfold hits
    refine List.Pairwise.sublist List.filter_sublist ?_
    refine List.pairwise_map.mpr (h.asc.imp fun {a b} l => ?_)
    show p * (t : Rat) + a.1 < p * (t : Rat) + b.1
    grind
  · have hn : (nums (s / p).floor ((e / p).ceil - (s / p).floor).toNat).Pairwise (fun a b => a < b) := by
      unfold nums
      refine List.pairwise_map.mpr (List.pairwise_lt_range.imp fun {a b} l => ?_)
      omega
    refine hn.imp fun {t u} l x hx y hy => ?_
    unfold hits at hx hy
    obtain ⟨b, hb, rfl⟩ := List.mem_map.mp (List.mem_filter.mp hx).1
    obtain ⟨c, hc, rfl⟩ := List.mem_map.mp (List.mem_filter.mp hy).1
    have h1 := (h.inn b hb).2.1
    have h2 := (h.inn c hc).1
    have h3 := Rat.mul_le_mul_of_nonneg_left (int_succ_le l) (Rat.le_of_lt h.pos)
    show p * (t : Rat) + b.1 < p * (u : Rat) + c.1
    grind
theorem mem_betw_iff (h : Mach p bs) {x : Beat} : x ∈ betw p bs s e ↔ s ≤ x.1 ∧ x.1 < e ∧ x.2 ≠ [] ∧ snd p bs x.1 = x.2 := by
  constructor
  · intro hx
    obtain ⟨t, b, _, _, hb, ex, h1, h2⟩ := mem_betw hx
    have l := h.inn b hb
    refine ⟨Rat.not_lt.mp h1, h2, by rw [ex]; exact l.2.2, ?_⟩
    rw [ex]
    show look bs (rbey (p * (t : Rat) + b.1) p) = b.2
    rw [rbey_of (z := t) rfl l.1 l.2.1]
    exact look_mem h.asc hb
  · rintro ⟨h1, h2, h3, h4⟩
    obtain ⟨z, ez, r0, r1⟩ := rbey_split h.pos x.1
    have mem : (rbey x.1 p, x.2) ∈ bs := by
      have : snd p bs x.1 = look bs (rbey x.1 p) := rfl
      rw [this] at h4
      have := look_ne (bs := bs) (t := rbey x.1 p) (by rw [h4]; exact h3)
      rwa [h4] at this
    have hz1 : (s / p).floor ≤ z := by
      have hf := floor_mul (t := s) h.pos
      rcases Int.lt_or_le z (s / p).floor with l | l
      · have := Rat.mul_le_mul_of_nonneg_left (int_succ_le l) (Rat.le_of_lt h.pos)
        exfalso
        have : x.1 < p * (z : Rat) + p := by grind
        grind
      · exact l
    have hz2 : z < (e / p).ceil := by
      rw [Rat.lt_ceil_iff, Rat.lt_div_iff' h.pos]
      grind
    unfold betw
    refine List.mem_flatMap.mpr ⟨z, ?_, ?_⟩
    · unfold nums
      exact List.mem_map.mpr ⟨(z - (s / p).floor).toNat, List.mem_range.mpr (by omega), by omega⟩
    · unfold hits
      refine List.mem_filter.mpr ⟨List.mem_map.mpr ⟨_, mem, by rw [← ez]⟩, ?_⟩
      rw [decide_eq_false (Rat.not_lt.mpr h1), decide_eq_true h2]
      rfl
def rndX (p q : Rat) : Nat := p.num.toNat * (Nat.lcm p.den q.den / p.den)
def rnd (p q : Rat) : Rat := Rat.divInt (Nat.lcm (rndX p q) (rndX q p) : Nat) (Nat.lcm p.den q.den : Nat)
theorem lcm_den_pos (p q : Rat) : 0 < Nat.lcm p.den q.den := Nat.lcm_pos p.den_pos q.den_pos
theorem rndX_cast (hp : 0 < p) : ((rndX p q : Nat) : Int) = p.num * (((Nat.lcm p.den q.den : Nat) : Int) / (p.den : Int)) := by
  have := num_pos hp
  unfold rndX
  rw [Int.natCast_mul, Int.toNat_of_nonneg (by omega), Int.natCast_ediv]
theorem rndX_pos (hp : 0 < p) : 0 < rndX p q := by
  have := num_pos hp
  unfold rndX
  refine Nat.mul_pos (by omega) (Nat.div_pos (Nat.le_of_dvd (lcm_den_pos p q) (Nat.dvd_lcm_left _ _)) p.den_pos)
theorem rndX_le (hp : 0 < p) : rndX p q ≤ p.num.toNat * q.den := by
  unfold rndX
  refine Nat.mul_le_mul_left _ (Nat.div_le_of_le_mul ?_)
  exact Nat.le_of_dvd (Nat.mul_pos p.den_pos q.den_pos) (Nat.lcm_dvd_mul _ _)
theorem rnd_comm (p q : Rat) : rnd p q = rnd q p := by
  unfold rnd
  rw [Nat.lcm_comm (rndX p q), Nat.lcm_comm p.den]
theorem rnd_left (hp : 0 < p) (hq : 0 < q) : ∃ a : Nat, 0 < a ∧ a ≤ q.num.toNat * p.den ∧ rnd p q = p * (a : Rat) := by
  obtain ⟨a, ea⟩ := Nat.dvd_lcm_left (rndX p q) (rndX q p)
  have x0 := rndX_pos (q := q) hp
  have y0 := rndX_pos (q := p) hq
  have l0 := Nat.lcm_pos x0 y0
  have a0 : 0 < a := by
    rcases Nat.eq_zero_or_pos a with z | z
    · rw [z, Nat.mul_zero] at ea
      omega
    · exact z
  refine ⟨a, a0, ?_, ?_⟩
  · have := Nat.le_of_dvd (Nat.mul_pos x0 y0) (Nat.lcm_dvd_mul (rndX p q) (rndX q p))
    rw [ea] at this
    exact Nat.le_trans (Nat.le_of_mul_le_mul_left this x0) (rndX_le hq)
  · have eb : Rat.divInt ((rndX p q : Nat) : Int) ((Nat.lcm p.den q.den : Nat) : Int) = p := by
      rw [rndX_cast hp]
      exact row_back (lcm_den_pos p q) (Nat.dvd_lcm_left _ _)
    unfold rnd
    rw [ea]
    conv => rhs; arg 1; rw [← eb]
    rw [Rat.divInt_eq_div, Rat.divInt_eq_div, Rat.div_def, Rat.div_def]
    have e1 : (((rndX p q * a : Nat) : Int) : Rat) = ((rndX p q : Nat) : Rat) * (a : Rat) := Rat.natCast_mul _ _
    have e2 : ((rndX p q : Int) : Rat) = ((rndX p q : Nat) : Rat) := rfl
    rw [e1, e2]
    grind
theorem over_nat {a : Nat} (hp : 0 < p) : p * (a : Rat) / p = (a : Rat) := by
  rw [Rat.mul_comm]
  exact Rat.mul_div_cancel fun e => by rw [e] at hp; exact Rat.lt_irrefl hp
end
end BP
set_option Elab.async false
set_option linter.all false
set_option maxRecDepth 100000
set_option maxHeartbeats 4000000
set_option exponentiation.threshold 5000
namespace BP
open BR PySem
end BP
set_option Elab.async false
set_option linter.all false
set_option maxRecDepth 100000
set_option maxHeartbeats 4000000
namespace BP
open BR PySem
section
variable {p : Rat} {bs : List Beat}
/-- the last beat ahead of t is w ago -/
def PW (f : Rat → List Nat) (t w : Rat) : Prop := 0 < w ∧ f (t - w) ≠ [] ∧ ∀ v, t - w < v → v < t → f v = []
theorem PW.uniq {f : Rat → List Nat} {t w u : Rat} (h : PW f t w) (g : PW f t u) : w = u := by
  obtain ⟨h1, h2, h3⟩ := h
  obtain ⟨g1, g2, g3⟩ := g
  by_cases l : w < u
  · exact absurd (g3 (t - w) (by grind) (by grind)) h2
  · by_cases l2 : u < w
    · exact absurd (h3 (t - u) (by grind) (by grind)) g2
    · exact Rat.le_antisymm (Rat.not_lt.mp l2) (Rat.not_lt.mp l)
end
end BP
set_option Elab.async false
set_option linter.all false
set_option maxRecDepth 100000
set_option maxHeartbeats 4000000
namespace BP
open BR PySem
section
variable {T : Nat → Option Fn} {k : Nat} {st : Store} {p q : Rat} {as bs : List Beat} {n : Nat}
/-- two rhythms whose common round is not too much -/
structure Pr (n : Nat) (p : Rat) (as : List Beat) (q : Rat) (bs : List Beat) : Prop where
  ta : Tame n p as
  tb : Tame n q bs
  ha : ∀ a : Nat, rnd p q = p * (a : Rat) → a * as.length ≤ 1000
  hb : ∀ a : Nat, rnd p q = q * (a : Rat) → a * bs.length ≤ 1000
  ca : ∀ a : Nat, rnd p q = p * (a : Rat) → a < 2 ^ 62
  cb : ∀ a : Nat, rnd p q = q * (a : Rat) → a < 2 ^ 62
theorem Pr.turns (P : Pr n p as q bs) (hn : n ≤ 160) : (-(2 ^ 62) ≤ (rnd p q / p).ceil ∧ (rnd p q / p).ceil < 2 ^ 62) ∧ (betw p as 0 (rnd p q)).length ≤ 1000 := by
  obtain ⟨a, a0, _, ea⟩ := rnd_left P.ta.pos P.tb.pos
  have oa : rnd p q / p = (a : Rat) := by rw [ea]; exact over_nat P.ta.pos
  have h1 := P.ha a ea
  have h2 := P.ca a ea
  have ec : ((a : Rat)).ceil = (a : Int) := Rat.ceil_intCast (a : Int)
  have z0 : (0 : Rat) / p = 0 := by rw [Rat.div_def, Rat.zero_mul]
  have f0 : ((0 : Rat) / p).floor = 0 := by rw [z0]; rfl
  have lb := betw_le (p := p) (s := 0) (e := rnd p q) (bs := as)
  rw [oa, ec, f0] at lb
  rw [oa, ec]
  refine ⟨by omega, Nat.le_trans lb ?_⟩
  rw [show ((a : Int) - 0).toNat = a from by omega]
  exact h1
structure Pair (n : Nat) (p : Rat) (as : List Beat) (q : Rat) (bs : List Beat) : Prop where
  ta : Tame n p as
  tb : Tame n q bs
  ha : ∀ a : Nat, rnd p q = p * (a : Rat) → a * as.length ≤ 1000
  hb : ∀ a : Nat, rnd p q = q * (a : Rat) → a * bs.length ≤ 1000
theorem rnd_few (hp : 0 < p) (hq : 0 < q) (fp : Fit n p) (fq : Fit n q) (hn : n ≤ 30) {a : Nat} (e : rnd p q = p * (a : Rat)) : a < 2 ^ 62 := by
  obtain ⟨b, b0, ble, eb⟩ := rnd_left hp hq
  have ab : a = b := by
    have h1 : rnd p q / p = (a : Rat) := by rw [e]; exact over_nat hp
    have h2 : rnd p q / p = (b : Rat) := by rw [eb]; exact over_nat hp
    exact nat_inj (h1.symm.trans h2)
  have hz := num_pos hq
  have f1 := fq.1
  have lt : q.num.toNat * p.den < 2 ^ 60 := Nat.lt_of_lt_of_le (lt_mul (m := n) (n := n) (by omega) fp.2) (Nat.pow_le_pow_right (by decide) (by omega))
  rw [ab]
  exact Nat.lt_trans (Nat.lt_of_le_of_lt ble lt) (by decide)
theorem Pair.pr (P : Pair n p as q bs) (hn : n ≤ 30) : Pr n p as q bs := ⟨P.ta, P.tb, P.ha, P.hb, fun a e => rnd_few P.ta.pos P.tb.pos P.ta.fp P.tb.fp hn e, fun a e => rnd_few P.tb.pos P.ta.pos P.tb.fp P.ta.fp hn (by rw [rnd_comm]; exact e)⟩
theorem Pair.turns (P : Pair n p as q bs) (hn : n ≤ 30) : (-(2 ^ 62) ≤ (rnd p q / p).ceil ∧ (rnd p q / p).ceil < 2 ^ 62) ∧ (betw p as 0 (rnd p q)).length ≤ 1000 := (P.pr hn).turns (by omega)
end
end BP
set_option Elab.async false
set_option linter.all false
set_option maxRecDepth 100000
set_option maxHeartbeats 4000000
set_option exponentiation.threshold 5000
namespace BP
open BR PySem
section
variable {T : Nat → Option Fn} {k : Nat} {st : Store} {p q : Rat} {as bs : List Beat} {n : Nat}
/-- a period N / P, n beats: of the least form, the number and parts times beats -/
theorem least_num {N P : Nat} (hN : 0 < N) (hP : 0 < P) (t : Tame n p bs) (ep : p = Rat.divInt (N : Int) (P : Int)) : (leastForm p bs).1.num.toNat ≤ N ∧ (leastForm p bs).1.den * (leastForm p bs).2.length ≤ P * bs.length := by
  by_cases hb : bs = []
  · subst hb
    rw [leastForm_nil]
    refine ⟨?_, by simp⟩
    show (1 : Rat).num.toNat ≤ N
    have : (1 : Rat).num = 1 := rfl
    rw [this]
    omega
  · obtain ⟨m, m0, m1, hPer, _, e⟩ := leastForm_some t.mach hb
    have el := per_len t.mach m0 hPer
    rw [e]
    have eq : p / (m : Rat) = Rat.divInt (N : Int) ((P * m : Nat) : Int) := by
      rw [ep, Rat.divInt_eq_div, Rat.divInt_eq_div]
      have e1 : (((P * m : Nat) : Int) : Rat) = (P : Rat) * (m : Rat) := Rat.natCast_mul _ _
      have e2 : ((P : Int) : Rat) = (P : Rat) := rfl
      rw [e1, e2]
      have z1 : (P : Rat) ≠ 0 := fun e => by have := nat_pos hP; rw [e] at this; exact Rat.lt_irrefl this
      have z2 : (m : Rat) ≠ 0 := fun e => by have := nat_pos m0; rw [e] at this; exact Rat.lt_irrefl this
      grind
    have hPm : 0 < P * m := Nat.mul_pos hP m0
    refine ⟨?_, ?_⟩
    · show (p / (m : Rat)).num.toNat ≤ N
      rw [eq, Rat.num_divInt, Int.sign_eq_one_of_pos (by omega), Int.one_mul, ← Int.natCast_ediv, Int.toNat_natCast]
      exact Nat.div_le_self _ _
    · show (p / (m : Rat)).den * (blk (p / (m : Rat)) bs).length ≤ _
      have h1 : (p / (m : Rat)).den ≤ P * m := by
        rw [eq, Rat.den_divInt, if_neg (by omega), Int.natAbs_natCast]
        exact Nat.div_le_self _ _
      have := Nat.mul_le_mul_right (blk (p / (m : Rat)) bs).length h1
      rw [Nat.mul_assoc, ← el] at this
      exact this
end
end BP
set_option Elab.async false
set_option linter.all false
set_option maxRecDepth 100000
set_option maxHeartbeats 4000000
namespace BP
open BR PySem
theorem nat_asc_ext : ∀ {xs ys : List Nat}, xs.Pairwise (fun a b => a < b) → ys.Pairwise (fun a b => a < b) → (∀ c, c ∈ xs ↔ c ∈ ys) → xs = ys
  | [], [], _, _, _ => rfl
  | [], b :: bs, _, _, h => absurd ((h b).mpr List.mem_cons_self) (by simp)
  | a :: as, [], _, _, h => absurd ((h a).mp List.mem_cons_self) (by simp)
  | a :: as, b :: bs, ha, hb, h => by
    obtain ⟨h1, h2⟩ := List.pairwise_cons.mp ha
    obtain ⟨g1, g2⟩ := List.pairwise_cons.mp hb
    have e : a = b := by
      rcases List.mem_cons.mp ((h a).mp List.mem_cons_self) with e | e
      · exact e
      · rcases List.mem_cons.mp ((h b).mpr List.mem_cons_self) with e2 | e2
        · exact e2.symm
        · have := g1 a e
          have := h1 b e2
          omega
    subst e
    rw [nat_asc_ext h2 g2 fun x => ?_]
    constructor
    · intro hx
      rcases List.mem_cons.mp ((h x).mp (List.mem_cons_of_mem _ hx)) with e | e
      · have := h1 x hx
        omega
      · exact e
    · intro hx
      rcases List.mem_cons.mp ((h x).mpr (List.mem_cons_of_mem _ hx)) with e | e
      · have := g1 x hx
        omega
      · exact e
/-- letters of the alphabet, each once, ascending -/
def Let (s : List Nat) : Prop := (∀ c ∈ s, Abcd c) ∧ s.Pairwise (fun a b => a < b)
theorem Let.nil : Let [] := ⟨fun _ h => (nomatch h), .nil⟩
theorem Let.ext {s u : List Nat} (h : Let s) (g : Let u) (e : ∀ c, c ∈ s ↔ c ∈ u) : s = u := nat_asc_ext h.2 g.2 e
section
variable {n : Nat} {p q : Rat} {as bs : List Beat}
theorem Asc.tame {D : Rat} {r : List Beat} (h : Asc (fun t => t < D ∧ Fit n t) r) (hD : 0 < D) (fD : Fit n D) (hl : r.length ≤ 1000) : Tame n D r :=
  ⟨hD, h.asc, fun b hb => by
    obtain ⟨h1, h2⟩ := h.ok b hb
    unfold okBeat at h1
    rw [Bool.and_eq_true, decide_eq_true_eq] at h1
    exact ⟨h1.1, h2.1, h1.2⟩, fD, fun b hb => (h.ok b hb).2.2, hl⟩
end
end BP
set_option Elab.async false
set_option linter.all false
set_option maxRecDepth 100000
set_option maxHeartbeats 4000000
set_option exponentiation.threshold 5000
namespace BP
open BR PySem
/-- all its numbers are parts of d -/
structure Dn (d : Nat) (p : Rat) (bs : List Beat) : Prop where
  pos : 0 < d
  per : p.den ∣ d
  bts : ∀ b ∈ bs, b.1.den ∣ d
theorem Dn.up {d e : Nat} {p : Rat} {bs : List Beat} (h : Dn d p bs) (he : 0 < e) (hd : d ∣ e) : Dn e p bs := ⟨he, Nat.dvd_trans h.per hd, fun b hb => Nat.dvd_trans (h.bts b hb) hd⟩
end BP
set_option Elab.async false
set_option linter.all false
set_option maxRecDepth 100000
set_option maxHeartbeats 4000000
set_option exponentiation.threshold 5000
namespace BP
open BR PySem
end BP
set_option Elab.async false
set_option linter.all false
set_option maxRecDepth 100000
set_option maxHeartbeats 4000000
namespace BP
open BR PySem
end BP
set_option Elab.async false
set_option linter.all false
set_option maxRecDepth 100000
set_option maxHeartbeats 4000000
namespace BP
open BR PySem
section
variable {T : Nat → Option Fn} {k : Nat} {st : Store}
/-- so many turns, one behind another -/
def runL (sz : Rat) (fs : Nat → List Beat) (n : Nat) : List Beat := (List.range n).flatMap fun i => (fs i).map fun x => (x.1 + sz * ((i : Int) : Rat), x.2)
end
end BP
set_option Elab.async false
set_option linter.all false
set_option maxRecDepth 100000
set_option maxHeartbeats 4000000
namespace BP
open BR PySem MX
section
variable {T : Nat → Option Fn} {k : Nat} {st : Store} {p q : Rat} {as bs : List Beat} {n : Nat}
theorem Drawn.num (h : Drawn p bs) : (leastForm p bs).1.num.toNat ≤ 8 ∧ (leastForm p bs).1.den * (leastForm p bs).2.length ≤ 32 := by
  obtain ⟨t, l8, _⟩ := h.tame
  obtain ⟨P, N, P0, P1, N0, N1, ep, _⟩ := h
  have := least_num (N := N) (P := P) (by omega) (by omega) t ep
  refine ⟨by omega, ?_⟩
  have := Nat.mul_le_mul P1 l8
  omega
end
end BP
set_option Elab.async false
set_option linter.all false
set_option maxRecDepth 100000
set_option maxHeartbeats 4000000
namespace BP
open BR PySem
def hd1 : List Nat → List Nat
  | [] => []
  | c :: _ => [c]
end BP
set_option Elab.async false
set_option linter.all false
set_option maxRecDepth 100000
set_option maxHeartbeats 4000000
namespace BP
open BR PySem
/-- trees of texts: a letter or a rest; a group (0 one behind another, 1 at once, 2 by turns); tails -/
inductive Tr where
  | one (c : Nat)
  | grp (k : Nat) (l : List Tr)
  | quick (t : Tr) (n m : Nat)
  | late (t : Tr) (p q : Nat)
  | frame (t : Tr) (n : Nat)
  | each (t : Tr) (n : Nat) (c : Tr)
  deriving Inhabited
def opn (k : Nat) : Nat := if k = 0 then 91 else if k = 1 then 123 else 40
def cls (k : Nat) : Nat := if k = 0 then 93 else if k = 1 then 125 else 41
def kind (k : Nat) : List Nat := if k = 0 then [114, 111, 119] else if k = 1 then [115, 116, 97, 99, 107] else [116, 117, 114, 110, 115]
mutual
def text : Tr → List Nat
  | .one c => [c]
  | .grp k l => opn k :: (texts l ++ [cls k])
  | .quick t n m => text t ++ [42, n + 48, 47, m + 48]
  | .late t p q => text t ++ [62, p + 48, 47, q + 48]
  | .frame t n => text t ++ [126, n + 48]
  | .each t n c => text t ++ (33 :: (n + 48) :: text c)
def texts : List Tr → List Nat
  | [] => []
  | t :: l => text t ++ texts l
end
mutual
/-- the package's tree -/
def pk : Tr → PV
  | .one c => if c = 45 then .tup [.str [114, 101, 115, 116], .str []] else .tup [.str [115, 116, 114, 111, 107, 101], .str [c]]
  | .grp k l => .tup [.str (kind k), .tup (pks l)]
  | .quick t n m => .tup [.str [113, 117, 105, 99, 107], pk t, .int n, .int m]
  | .late t p q => .tup [.str [108, 97, 116, 101], pk t, .int p, .int q]
  | .frame t n => .tup [.str [102, 114, 97, 109, 101], pk t, .int n]
  | .each t n c => .tup [.str [101, 97, 99, 104], pk t, .int n, pk c]
def pks : List Tr → List PV
  | [] => []
  | t :: l => pk t :: pks l
end
section
variable {T : Nat → Option Fn} {k a : Nat} {st : Store} {w : List Nat}
/-- while the next sign is one of some -/
def more (call : CallT) (ss : List Nat) : BM := tAnd (tVal (eOp2 pNe (eFrz (fMeth call 81 2 "peek" (eVar 0) aNil)) (eC (.str [])))) (tVal (eOp2 pIn (eFrz (fMeth call 81 2 "peek" (eVar 0) aNil)) (eC (.str ss))))
end
end BP
set_option Elab.async false
set_option linter.all false
set_option maxRecDepth 100000
set_option maxHeartbeats 4000000
namespace BP
open BR PySem
theorem set_of {ρ : BR.Env} {s s' : Store} {u : Nat} {v : PV} {M : EM} (h : M ρ s = .ok v s') : sSet u (fVal M) ρ s = .next (ρ.set u (.val v)) s' := by
  rw [sSet_ev, fVal_ev, h]
  rfl
end BP
set_option Elab.async false
set_option linter.all false
set_option maxRecDepth 100000
set_option maxHeartbeats 4000000
namespace BP
open BR PySem
end BP
set_option Elab.async false
set_option linter.all false
set_option maxRecDepth 100000
set_option maxHeartbeats 4000000
namespace BP
open BR PySem
end BP
set_option Elab.async false
set_option linter.all false
set_option maxRecDepth 100000
set_option maxHeartbeats 4000000
set_option exponentiation.threshold 5000
namespace BP
open BR PySem
/-- how the sizes of a group's parts become one -/
def gF (k : Nat) (a b : Rat) : Rat := if k = 0 then a + b else if k = 1 then rnd a b else if a < b then b else a
def foldF (f : Rat → Rat → Rat) : List Rat → Rat
  | [] => 0
  | x :: xs => xs.foldl f x
mutual
/-- a tree's length -/
def sz : Tr → Rat
  | .one _ => 1
  | .grp k l => foldF (gF k) (szs l)
  | .quick t n m => sz t * Rat.divInt m n
  | .late t _ _ => sz t
  | .frame _ n => (n : Rat)
  | .each t _ c => gF 2 (sz t) (sz c)
def szs : List Tr → List Rat
  | [] => []
  | t :: l => sz t :: szs l
end
mutual
/-- turns after which all comes round -/
def rd : Tr → Nat
  | .one _ => 1
  | .grp k l => (rdl l).foldl Nat.lcm 1 * (if k = 2 then l.length else 1)
  | .quick t _ _ => rd t
  | .late t _ _ => rd t
  | .frame _ _ => 1
  | .each t n c => Nat.lcm (rd t) (rd c) * n
def rdl : List Tr → List Nat
  | [] => []
  | t :: l => rd t :: rdl l
end
mutual
def hh : Tr → Nat
  | .one _ => 0
  | .grp _ l => 1 + hhs l
  | .quick t _ _ => 1 + hh t
  | .late t _ _ => 1 + hh t
  | .frame t _ => 1 + hh t
  | .each t _ c => 1 + max (hh t) (hh c)
def hhs : List Tr → Nat
  | [] => 0
  | t :: l => max (hh t) (hhs l)
end
def Gn (n : Nat) : Prop := 0 < n ∧ n < 2 ^ 2000
section
variable {T : Nat → Option Fn} {k : Nat} {st st1 st2 : Store} {ρ : BR.Env} {call : CallT} {id : Nat} {m m2 : EM} {p p2 q : PV}
theorem call1 (h : m ρ st = .ok p st1) (hc : call id [p] st1 = .ok (.val q) st2) : eFrz (fCall call id (aCons m aNil)) ρ st = .ok q st2 := by simp [h, hc]
theorem call2 (h : m ρ st = .ok p st) (h2 : m2 ρ st = .ok p2 st1) (hc : call id [p, p2] st1 = .ok (.val q) st2) : eFrz (fCall call id (aCons m (aCons m2 aNil))) ρ st = .ok q st2 := by simp [h, h2, hc]
theorem retV (h : m ρ st = .ok p st1) : sRet (fVal m) ρ st = .ret (.val p) st1 := by simp [h]
theorem Gn.big {a : Nat} (h : Gn a) : (a : Int).natAbs < 2 ^ 9000 := by
  rw [Int.natAbs_natCast]
  exact Nat.lt_trans h.2 (by decide +kernel)
end
end BP
set_option Elab.async false
set_option linter.all false
set_option maxRecDepth 100000
set_option maxHeartbeats 4000000
namespace BP
open BR PySem
section
variable {T : Nat → Option Fn} {k : Nat} {st : Store}
theorem are_beats_lst (h : Has T [64, 65, 68, 73, 106, 107, 108]) (hk : 3 < k) {bs : List Beat} {e : Rat} (hb : BOk 9000 bs) (he : Fit 9000 e) : runFn T k 108 [.lst (bs.map bt), fr e] st = .ok (.val (.bl (okBeats bs e))) st := by
  rw [run_at (h.at 108) (by omega)]
  obtain ⟨hl, hb⟩ := hb
  have e1 := fLc_map (st := st) (ρ := [.val (.lst (bs.map bt)), .val (fr e), .un, .un, .un]) (w := wItems (eVar 0)) (own := [2]) (g := gName 2) (e := eFrz (fCall (runFn T (k - 1)) 107 (aCons (eVar 2) (aNil)))) bt (fun b => .bl (okBeat b)) bs (by simp) hl
    (fun b hb' => ⟨[.val (.lst (bs.map bt)), .val (fr e), .val (bt b), .un, .un], rfl, by
      have q := is_beat_ok (k := k - 1) (st := st) (T := T) h.sub (by omega) (hb b hb')
      simp [q]⟩)
  have a1 := nAll_map okBeat bs
  have ct : eCutS (eVar 0) (oSome (eC (.int 1))) oNone [.val (.lst (bs.map bt)), .val (fr e), .un, .un, .un] st = .ok (.lst ((bs.drop 1).map bt)) st := by
    show R.ofOpt (some (PV.lst (cutG (bs.map bt) (some 1) none))) st = _
    rw [cut_one, ← List.map_drop]
    rfl
  have zs : zipOf (.lst (bs.map bt)) (.lst ((bs.drop 1).map bt)) = some ((bs.zip (bs.drop 1)).map fun q => PV.wt [bt q.1, bt q.2]) := by
    unfold zipOf zipPV
    simp only
    rw [List.zip_map, List.map_map]
    rfl
  have e2 := fLc_map (st := st) (ρ := [.val (.lst (bs.map bt)), .val (fr e), .un, .un, .un]) (w := wZip (eVar 0) (eCutS (eVar 0) (oSome (eC (.int 1))) oNone)) (own := [3, 4]) (g := gTup [gName 3, gName 4])
    (e := eFrz (fCall (runFn T (k - 1)) 73 (aCons (eOp2S pIdxS (eVar 3) (eC (.int 0))) (aCons (eOp2S pIdxS (eVar 4) (eC (.int 0))) (aNil))))) (fun q : Beat × Beat => PV.wt [bt q.1, bt q.2]) (fun q => .bl (decide (q.1.1 < q.2.1))) (bs.zip (bs.drop 1))
    (by
      show (R.ok (PV.lst (bs.map bt)) st).bind (kLs2 zipOf _ _) = _
      rw [bind_ok, kLs2_ev, ct, bind_ok, kLs_ev, zs]
      rfl) (by rw [List.length_zip]; omega)
    (fun q hq => ⟨[.val (.lst (bs.map bt)), .val (fr e), .un, .val (bt q.1), .val (bt q.2)], rfl, by
      have m := List.of_mem_zip hq
      have z := is_less_ok (k := k - 1) (st := st) (T := T) h.sub (by omega) (hb q.1 m.1).1 (hb q.2 (List.mem_of_mem_drop m.2)).1
      have p1 : pIdxS (bt q.1) (.int 0) st = some (fr q.1.1) := rfl
      have p2 : pIdxS (bt q.2) (.int 0) st = some (fr q.2.1) := rfl
      simp [p1, p2, z]⟩)
  have a2 := nAll_map (fun q : Beat × Beat => decide (q.1.1 < q.2.1)) (bs.zip (bs.drop 1))
  have e3 := fLc_map (st := st) (ρ := [.val (.lst (bs.map bt)), .val (fr e), .un, .un, .un]) (w := wItems (eVar 0)) (own := [2]) (g := gName 2) (e := eFrz (fCall (runFn T (k - 1)) 73 (aCons (eOp2S pIdxS (eVar 2) (eC (.int 0))) (aCons (eVar 1) (aNil))))) bt (fun b => .bl (decide (b.1 < e))) bs (by simp) hl
    (fun b hb' => ⟨[.val (.lst (bs.map bt)), .val (fr e), .val (bt b), .un, .un], rfl, by
      have z := is_less_ok (k := k - 1) (st := st) (T := T) h.sub (by omega) (hb b hb').1 he
      have p1 : pIdxS (bt b) (.int 0) st = some (fr b.1) := rfl
      simp [p1, z]⟩)
  have a3 := nAll_map (fun b : Beat => decide (b.1 < e)) bs
  unfold b108 okBeats
  generalize (bs.zip (bs.drop 1)).map (fun q : Beat × Beat => PV.bl (decide (q.1.1 < q.2.1))) = L2 at e2 a2
  generalize bs.map (fun b : Beat => PV.bl (decide (b.1 < e))) = L3 at e3 a3
  generalize bs.map (fun b : Beat => PV.bl (okBeat b)) = L1 at e1 a1
  generalize bs.all okBeat = A1 at a1 ⊢
  generalize ((bs.zip (bs.drop 1)).all fun q : Beat × Beat => decide (q.1.1 < q.2.1)) = A2 at a2 ⊢
  generalize (bs.all fun b : Beat => decide (b.1 < e)) = A3 at a3 ⊢
  cases A1 with
  | false => simp [e1, a1]
  | true =>
    cases A2 with
    | false => simp [e1, a1, e2, a2]
    | true => simp [e1, a1, e2, a2, e3, a3]
def b137b1 (call : CallT) : SM := sPar 6 7 (fVal (eFrz (fCall call 69 (aCons (eVar 4) (aCons (eVar 3) (aNil)))))) (fVal (eFrz (fCall call 70 (aCons (eVar 4) (aCons (eVar 3) (aNil))))))
def b137b2 (call : CallT) : SM := sIf (tAnd (tVal (eFrz (fCall call 73 (aCons (eVar 6) (aCons (eVar 2) (aNil)))))) (tVal (eOp2 pNe (eDGet (eVar 1) (eVar 6) (eC (.str []))) (eVar 5)))) (sRet (fVal (eC (.bl false)))) (sNil)
def b137b3 (call : CallT) : SM := sIf (tAnd (tVal (eOp2 pGe (eOp2S pIdxS (eVar 7) (eC (.int 0))) (eC (.int 0)))) (tVal (eOp2 pNe (eDGet (eVar 1) (eVar 7) (eC (.str []))) (eVar 5)))) (sRet (fVal (eC (.bl false)))) (sNil)
def b137b (call : CallT) : SM := sSeq (b137b1 call) (sSeq (b137b2 call) (b137b3 call))
def b137_ (call : CallT) : SM := sSeq (sFor (wItems (eVar 0)) (gTup [gName 4, gName 5]) (b137b call)) (sRet (fVal (eC (.bl true))))
theorem b137_eq (call : CallT) : b137 call = b137_ call := rfl
/-- a beat tells against a period -/
def odd1 (bs : List Beat) (U q : Rat) (b : Beat) : Bool := (decide (b.1 + q < U) && !decide (look bs (b.1 + q) = b.2)) || (decide (0 ≤ b.1 - q) && !decide (look bs (b.1 - q) = b.2))
def mayB (bs : List Beat) (U q : Rat) : Bool := !bs.any (odd1 bs U q)
theorem may_ok (h : Has T [65, 67, 69, 70, 73, 137]) (hk : 4 < k) {B : PV} {bs : List Beat} {U q : Rat} (hB : BeatsPV B bs) (hb : ∀ b ∈ bs, Fit 900 b.1 ∧ Txt b.2) (hU : Fit 1000 U) (hq : Fit 1000 q) :
    runFn T k 137 [B, dctB bs, fr U, fr q] st = .ok (.val (.bl (mayB bs U q))) st := by
  rw [run_at (h.at 137) (by omega), b137_eq]
  have tl : ∀ t, Txt (look bs t) := fun t => look_txt fun b hb' => (hb b hb').2
  have key := forGo_find (st := st) (g := gTup [gName 4, gName 5]) (body := b137b (runFn T (k - 1))) bt (odd1 bs U q) (fun _ => .val (.bl false))
    (fun ρ => ∃ c4 c5 c6 c7, ρ = [.val B, .val (dctB bs), .val (fr U), .val (fr q), c4, c5, c6, c7]) bs [.val B, .val (dctB bs), .val (fr U), .val (fr q), .un, .un, .un, .un] ⟨_, _, _, _, rfl⟩ (by
      rintro b mb ρ ⟨c4, c5, c6, c7, rfl⟩
      obtain ⟨fb, tb⟩ := hb b mb
      have e1 := added_ok (T := T) (k := k - 1) (st := st) h.sub (by omega) (a := b.1) (b := q) (fb.mono (by decide)) (hq.mono (by decide))
      have e2 := less_ok (T := T) (k := k - 1) (st := st) h.sub (by omega) (a := b.1) (b := q) (fb.mono (by decide)) (hq.mono (by decide))
      have f1 := fit_add fb hq
      have e3 := is_less_ok (T := T) (k := k - 1) (st := st) h.sub (by omega) (a := b.1 + q) (b := U) (f1.mono (by decide)) (hU.mono (by decide))
      have w1 : b137b1 (runFn T (k - 1)) [.val B, .val (dctB bs), .val (fr U), .val (fr q), .val (fr b.1), .val (.str b.2), c6, c7] st = .next [.val B, .val (dctB bs), .val (fr U), .val (fr q), .val (fr b.1), .val (.str b.2), .val (fr (b.1 + q)), .val (fr (b.1 - q))] st := by
        have i1 : eFrz (fCall (runFn T (k - 1)) 69 (aCons (eVar 4) (aCons (eVar 3) (aNil)))) [.val B, .val (dctB bs), .val (fr U), .val (fr q), .val (fr b.1), .val (.str b.2), c6, c7] st = .ok (fr (b.1 + q)) st := call2 rfl rfl e1
        have i2 : eFrz (fCall (runFn T (k - 1)) 70 (aCons (eVar 4) (aCons (eVar 3) (aNil)))) [.val B, .val (dctB bs), .val (fr U), .val (fr q), .val (fr b.1), .val (.str b.2), c6, c7] st = .ok (fr (b.1 - q)) st := call2 rfl rfl e2
        unfold b137b1
        rw [sPar_ev, fVal_ev, i1, bind_ok, kVal_ev, bindS_ok, kPar_ev, fVal_ev, i2]
        rfl
      have i3 : eFrz (fCall (runFn T (k - 1)) 73 (aCons (eVar 6) (aCons (eVar 2) (aNil)))) [.val B, .val (dctB bs), .val (fr U), .val (fr q), .val (fr b.1), .val (.str b.2), .val (fr (b.1 + q)), .val (fr (b.1 - q))] st = .ok (.bl (decide (b.1 + q < U))) st := call2 rfl rfl e3
      have g1 : eDGet (eVar 1) (eVar 6) (eC (.str [])) [.val B, .val (dctB bs), .val (fr U), .val (fr q), .val (fr b.1), .val (.str b.2), .val (fr (b.1 + q)), .val (fr (b.1 - q))] st = .ok (.str (look bs (b.1 + q))) st := dget_ok rfl rfl
      have g2 : eDGet (eVar 1) (eVar 7) (eC (.str [])) [.val B, .val (dctB bs), .val (fr U), .val (fr q), .val (fr b.1), .val (.str b.2), .val (fr (b.1 + q)), .val (fr (b.1 - q))] st = .ok (.str (look bs (b.1 - q))) st := dget_ok rfl rfl
      have n1 := pNe_str (tl (b.1 + q)) tb
      have n2 := pNe_str (tl (b.1 - q)) tb
      have t1 : tVal (eOp2 pNe (eDGet (eVar 1) (eVar 6) (eC (.str []))) (eVar 5)) [.val B, .val (dctB bs), .val (fr U), .val (fr q), .val (fr b.1), .val (.str b.2), .val (fr (b.1 + q)), .val (fr (b.1 - q))] st = .ok (!decide (look bs (b.1 + q) = b.2)) st := by
        rw [tVal_ev, eOp2_ev, g1]
        show ((R.ofOpt (pNe (.str (look bs (b.1 + q))) (.str b.2)) st).bind tblK) = _
        rw [n1]
        rfl
      have t2 : tVal (eOp2 pNe (eDGet (eVar 1) (eVar 7) (eC (.str []))) (eVar 5)) [.val B, .val (dctB bs), .val (fr U), .val (fr q), .val (fr b.1), .val (.str b.2), .val (fr (b.1 + q)), .val (fr (b.1 - q))] st = .ok (!decide (look bs (b.1 - q) = b.2)) st := by
        rw [tVal_ev, eOp2_ev, g2]
        show ((R.ofOpt (pNe (.str (look bs (b.1 - q))) (.str b.2)) st).bind tblK) = _
        rw [n2]
        rfl
      have t3 : tVal (eOp2 pGe (eOp2S pIdxS (eVar 7) (eC (.int 0))) (eC (.int 0))) [.val B, .val (dctB bs), .val (fr U), .val (fr q), .val (fr b.1), .val (.str b.2), .val (fr (b.1 + q)), .val (fr (b.1 - q))] st = .ok (decide (0 ≤ b.1 - q)) st := by
        have : (0 ≤ (b.1 - q).num) = (0 ≤ b.1 - q) := propext (le_zero (b.1 - q))
        show R.ok (decide (0 ≤ (b.1 - q).num)) st = _
        simp only [this]
      have t0 : tVal (eFrz (fCall (runFn T (k - 1)) 73 (aCons (eVar 6) (aCons (eVar 2) (aNil))))) [.val B, .val (dctB bs), .val (fr U), .val (fr q), .val (fr b.1), .val (.str b.2), .val (fr (b.1 + q)), .val (fr (b.1 - q))] st = .ok (decide (b.1 + q < U)) st := by rw [tVal_ev, i3]; rfl
      have r2 : b137b2 (runFn T (k - 1)) [.val B, .val (dctB bs), .val (fr U), .val (fr q), .val (fr b.1), .val (.str b.2), .val (fr (b.1 + q)), .val (fr (b.1 - q))] st = if (decide (b.1 + q < U) && !decide (look bs (b.1 + q) = b.2)) = true then SR.ret (.val (.bl false)) st else SR.next [.val B, .val (dctB bs), .val (fr U), .val (fr q), .val (fr b.1), .val (.str b.2), .val (fr (b.1 + q)), .val (fr (b.1 - q))] st := by
        unfold b137b2
        rw [sIf_ev, tAnd_ev, t0]
        cases decide (b.1 + q < U) with
        | false => rfl
        | true =>
          rw [bind_ok, kAnd_t, t1]
          cases decide (look bs (b.1 + q) = b.2) <;> rfl
      have r3 : b137b3 (runFn T (k - 1)) [.val B, .val (dctB bs), .val (fr U), .val (fr q), .val (fr b.1), .val (.str b.2), .val (fr (b.1 + q)), .val (fr (b.1 - q))] st = if (decide (0 ≤ b.1 - q) && !decide (look bs (b.1 - q) = b.2)) = true then SR.ret (.val (.bl false)) st else SR.next [.val B, .val (dctB bs), .val (fr U), .val (fr q), .val (fr b.1), .val (.str b.2), .val (fr (b.1 + q)), .val (fr (b.1 - q))] st := by
        unfold b137b3
        rw [sIf_ev, tAnd_ev, t3]
        cases decide (0 ≤ b.1 - q) with
        | false => rfl
        | true =>
          rw [bind_ok, kAnd_t, t2]
          cases decide (look bs (b.1 - q) = b.2) <;> rfl
      refine ⟨[.val B, .val (dctB bs), .val (fr U), .val (fr q), .val (fr b.1), .val (.str b.2), c6, c7], rfl, fun ho => ⟨[.val B, .val (dctB bs), .val (fr U), .val (fr q), .val (fr b.1), .val (.str b.2), .val (fr (b.1 + q)), .val (fr (b.1 - q))], ?_, _, _, _, _, rfl⟩, fun ho => ?_⟩
      · unfold odd1 at ho
        rw [Bool.or_eq_false_iff] at ho
        rw [ho.1, if_neg Bool.false_ne_true] at r2
        rw [ho.2, if_neg Bool.false_ne_true] at r3
        unfold b137b
        rw [sSeq_ev, w1, seq_next, sSeq_ev, r2, seq_next, r3]
      · unfold odd1 at ho
        unfold b137b
        rw [sSeq_ev, w1, seq_next, sSeq_ev, r2]
        cases hx : (decide (b.1 + q < U) && !decide (look bs (b.1 + q) = b.2)) with
        | true => rfl
        | false =>
          rw [hx, Bool.false_or] at ho
          rw [if_neg Bool.false_ne_true, seq_next, r3, ho]
          rfl)
  have wi : wItems (eVar 0) [.val B, .val (dctB bs), .val (fr U), .val (fr q), .un, .un, .un, .un] st = .ok (bs.map bt) st := by
    show (R.ok B st).bind (kLs itemsOf) = _
    rw [bind_ok, kLs_ev, hB.it]
    rfl
  show BR.finish (b137_ (runFn T (k - 1)) [.val B, .val (dctB bs), .val (fr U), .val (fr q), .un, .un, .un, .un] st) = _
  unfold b137_
  rw [sSeq_ev, sFor_ev, wi, bindS_ok, kFor_ev]
  cases hf : bs.find? (odd1 bs U q) with
  | none =>
    obtain ⟨ρ', e⟩ := key.1 hf
    have hm : mayB bs U q = true := by
      unfold mayB
      rw [Bool.not_eq_true', List.any_eq_false]
      exact List.find?_eq_none.mp hf
    rw [e.1, seq_next, hm]
    rfl
  | some y =>
    have e := key.2 y hf
    have hm : mayB bs U q = false := by
      unfold mayB
      rw [Bool.not_eq_false', List.any_eq_true]
      exact ⟨y, List.mem_of_find?_eq_some hf, List.find?_some hf⟩
    rw [e, hm]
    rfl
end
end BP
set_option Elab.async false
set_option linter.all false
set_option maxRecDepth 100000
set_option maxHeartbeats 4000000
set_option exponentiation.threshold 5000
namespace BP
open BR PySem
def later (xs : List Beat) (d : Rat) : List Beat := xs.map fun x => (x.1 + d, x.2)
mutual
/-- the strokes of a turn -/
def tn : Tr → Nat → List Beat
  | .one c, _ => if c = 45 then [] else [(0, [c])]
  | .grp k l, n => if k = 0 then uniq (rowL l n 0) else if k = 1 then uniq (stkL (foldF (gF 1) (szs l)) l n) else pickL l (n % l.length) (n / l.length)
  | .quick t a b, n => (tn t n).map fun x => (x.1 * Rat.divInt b a, x.2)
  | .late t p q, n => uniq ((tn t n).map fun x => (rbey (x.1 + sz t * Rat.divInt p q) (sz t), x.2))
  | .frame t m, _ => uniq ((runL (sz t) (fun i => tn t i) (((m : Rat) / sz t).ceil.toNat)).filter fun x => decide (x.1 < (m : Rat)))
  | .each t a c, n => if n / a < (n + 1) / a then tn c (n / a) else tn t (n - n / a)
def rowL : List Tr → Nat → Rat → List Beat
  | [], _, _ => []
  | t :: l, n, time => later (tn t n) time ++ rowL l n (time + sz t)
def stkL : Rat → List Tr → Nat → List Beat
  | _, [], _ => []
  | S, t :: l, n => runL (sz t) (fun i => tn t (n * (S / sz t).num.toNat + i)) (S / sz t).num.toNat ++ stkL S l n
def pickL : List Tr → Nat → Nat → List Beat
  | [], _, _ => []
  | t :: _, 0, n => tn t n
  | _ :: l, i + 1, n => pickL l i n
end
mutual
/-- a law's weight of a tree: not less than the strokes of any turn -/
def wt : Tr → Nat
  | .one _ => 1
  | .grp k l => if k = 1 then wtS (foldF (gF 1) (szs l)) (szs l) (wts l * rd (.grp k l)) else wts l * rd (.grp k l)
  | .quick t _ _ => wt t * rd t
  | .late t _ _ => wt t * rd t
  | .frame t m => wtS (m : Rat) [sz t] (wt t)
  | .each t a c => wt t * rd (.each t a c) + wt c * rd (.each t a c)
def wts : List Tr → Nat
  | [] => 0
  | t :: l => wt t + wts l
/-- found = found + found * (S / s) for each size -/
def wtS (S : Rat) : List Rat → Nat → Nat
  | [], f => f
  | s :: ss, f => wtS S ss (f + f * ((S * s⁻¹).num / ((S * s⁻¹).den : Int)).toNat)
end
end BP
set_option Elab.async false
set_option linter.all false
set_option maxRecDepth 100000
set_option maxHeartbeats 4000000
set_option exponentiation.threshold 5000
namespace BP
open BR PySem
end BP
set_option Elab.async false
set_option linter.all false
set_option maxRecDepth 100000
set_option maxHeartbeats 4000000
set_option exponentiation.threshold 5000
namespace BP
open BR PySem
mutual
/-- all times and lengths of a tree are parts of this -/
def dn : Tr → Nat
  | .one _ => 1
  | .grp _ l => dns l
  | .quick t a _ => dn t * a
  | .late t _ q => dn t * q
  | .frame t _ => dn t
  | .each t _ c => dn t * dn c
def dns : List Tr → Nat
  | [] => 1
  | t :: l => dn t * dns l
end
end BP
set_option Elab.async false
set_option linter.all false
set_option maxRecDepth 100000
set_option maxHeartbeats 4000000
set_option exponentiation.threshold 5000
namespace BP
open BR PySem
end BP
set_option Elab.async false
set_option linter.all false
set_option maxRecDepth 100000
set_option maxHeartbeats 4000000
set_option exponentiation.threshold 5000
namespace BP
open BR PySem
end BP
set_option Elab.async false
set_option linter.all false
set_option maxRecDepth 100000
set_option maxHeartbeats 4000000
set_option exponentiation.threshold 5000
namespace BP
open BR PySem
end BP
set_option Elab.async false
set_option linter.all false
set_option maxRecDepth 100000
set_option maxHeartbeats 4000000
set_option exponentiation.threshold 10000
namespace BP
open BR PySem
section
variable {T : Nat → Option Fn} {k : Nat} {st st1 st2 : Store} {ρ : BR.Env} {call : CallT} {id : Nat} {m m2 m3 : EM} {am : AM} {p p2 p3 q : PV} {ps : List PV} {v : SV}
theorem callF (h : am ρ st = .ok ps st1) (hc : call id ps st1 = .ok v st2) (hv : v.toPV = some q) : eFrz (fCall call id am) ρ st = .ok q st2 := by
  rw [eFrz_ev, fCall_ev, h, bind_ok, hc, bind_ok, kFrz_ev, hv]
  rfl
theorem ag1 (h : m ρ st = .ok p st1) : aCons m aNil ρ st = .ok [p] st1 := by rw [aCons_ev, h]; rfl
theorem ag2 (h : m ρ st = .ok p st1) (h2 : m2 ρ st1 = .ok p2 st2) : aCons m (aCons m2 aNil) ρ st = .ok [p, p2] st2 := by rw [aCons_ev, h, bind_ok, kCons_ev, ag1 h2]; rfl
theorem ag3 (h : m ρ st = .ok p st) (h2 : m2 ρ st = .ok p2 st) (h3 : m3 ρ st = .ok p3 st) : aCons m (aCons m2 (aCons m3 aNil)) ρ st = .ok [p, p2, p3] st := by rw [aCons_ev, h, bind_ok, kCons_ev, ag2 h2 h3]; rfl
end
end BP
set_option Elab.async false
set_option linter.all false
set_option maxRecDepth 100000
set_option maxHeartbeats 4000000
namespace BP
open BR PySem
def b138_1 (call : CallT) : SM := sDrop (eFrz (fCall call 136 (aCons (eVar 0) (aCons (eVar 1) (aCons (eVar 2) (aNil))))))
def b138_2 (_call : CallT) : SM := sPar 4 5 (fVal (eOpN nDict (aCons (eVar 0) (aNil)))) (fLst (aNil))
def b138_3b1 (call : CallT) : SM := sSet 6 (fVal (eFrz (fCall call 71 (aCons (eVar 2) (aCons (eTup (aCons (eVar 3) (aCons (eC (.int 1)) (aNil)))) (aNil))))))
def b138_3b2 (call : CallT) : SM := sIf (tVal (eFrz (fCall call 137 (aCons (eVar 0) (aCons (eVar 4) (aCons (eVar 1) (aCons (eVar 6) (aNil)))))))) (sApp 5 (eVar 6)) (sNil)
def b138_3b (call : CallT) : SM := sSeq (b138_3b1 call) (b138_3b2 call)
def b138_3 (call : CallT) : SM := sFor (wRng2 (eC (.int 1)) (eOp2 pAdd (eFrz (fCall call 74 (aCons (eFrz (fCall call 72 (aCons (eVar 1) (aCons (eVar 2) (aNil))))) (aNil)))) (eC (.int 1)))) (gName 3) (b138_3b call)
def b138_ (call : CallT) : SM := sSeq (b138_1 call) (sSeq (b138_2 call) (sSeq (b138_3 call) (sRetV 5)))
theorem b138_eq (call : CallT) : b138 call = b138_ call := rfl
/-- what rounds gives -/
def rnds (bs : List Beat) (U q : Rat) : List Rat := ((nums 1 (U / q).floor.toNat).filter fun m : Int => mayB bs U (q * (m : Rat))).map fun m : Int => q * (m : Rat)
/-- heard beats as they are given: a list or a tuple -/
structure Heard (T : Nat → Option Fn) (B : PV) (bs : List Beat) : Prop where
  hB : BeatsPV B bs
  isi : pIsI ["list", "tuple"] B = some (.bl true)
  are : ∀ (k : Nat) (st : Store) (e : Rat), 3 < k → Fit 9000 e → runFn T k 108 [B, fr e] st = .ok (.val (.bl (okBeats bs e))) st
section
variable {T : Nat → Option Fn} {k : Nat} {st : Store}
theorem heard_lst (h : Has T [64, 65, 68, 73, 106, 107, 108]) {bs : List Beat} (hb : BOk 9000 bs) : Heard T (.lst (bs.map bt)) bs := ⟨beats_lst bs, by kernel_rfl, fun _ _ _ hk he => are_beats_lst h hk hb he⟩
theorem heard_tup (h : Has T [64, 65, 68, 73, 106, 107, 108]) {bs : List Beat} (hb : BOk 9000 bs) : Heard T (.tup (bs.map bt)) bs := ⟨beats_tup bs, by kernel_rfl, fun _ _ _ hk he => are_beats_ok h hk hb he⟩
theorem check_ok (h : Has T [64, 65, 68, 105, 136]) (hk : 5 < k) {B : PV} {bs : List Beat} (H : Heard T B bs) {U q : Rat} (hU : Fit 9000 U) (hq : Fit 9000 q) (u0 : 0 < U) (q0 : 0 < q) (ok : okBeats bs U = true) :
    runFn T k 136 [B, fr U, fr q] st = .ok (.val .non) st := by
  rw [run_at (h.at 136) (by omega)]
  have e1 := is_time_ok (T := T) (k := k - 1) (st := st) h.sub (by omega) hU
  have e2 := is_time_ok (T := T) (k := k - 1) (st := st) h.sub (by omega) hq
  have e3 := H.are (k - 1) st U (by omega) hU
  rw [decide_eq_true u0] at e1
  rw [decide_eq_true q0] at e2
  rw [ok] at e3
  have e0 := H.isi
  show BR.finish (b136 (runFn T (k - 1)) [.val B, .val (fr U), .val (fr q)] st) = _
  have t0 : tNot (tVal (eOp1 (pIsI ["list", "tuple"]) (eVar 0))) [.val B, .val (fr U), .val (fr q)] st = .ok false st := by
    show R.bind (R.bind (R.ofOpt (pIsI ["list", "tuple"] B) st) tblK) kNot = _
    rw [e0]
    rfl
  have t1 : tNot (tVal (eFrz (fCall (runFn T (k - 1)) 105 (aCons (eVar 1) (aNil))))) [.val B, .val (fr U), .val (fr q)] st = .ok false st := by
    rw [tNot_ev, tVal_ev, call1 (p := fr U) (st := st) rfl e1]
    rfl
  have t2 : tNot (tVal (eFrz (fCall (runFn T (k - 1)) 105 (aCons (eVar 2) (aNil))))) [.val B, .val (fr U), .val (fr q)] st = .ok false st := by
    rw [tNot_ev, tVal_ev, call1 (p := fr q) (st := st) rfl e2]
    rfl
  have t3 : tNot (tVal (eFrz (fCall (runFn T (k - 1)) 108 (aCons (eVar 0) (aCons (eVar 1) (aNil)))))) [.val B, .val (fr U), .val (fr q)] st = .ok false st := by
    rw [tNot_ev, tVal_ev, call2 (p := B) (p2 := fr U) (st := st) rfl rfl e3]
    rfl
  unfold b136
  rw [sIf_ev, tOr_ev, t0, bind_ok, kOr_f, tOr_ev, t1, bind_ok, kOr_f, tOr_ev, t2, bind_ok, kOr_f, t3, bindS_ok, kIfS_f, sNil_ev]
  rfl
theorem rounds_ok (h : Has T [64, 65, 67, 68, 69, 70, 71, 72, 73, 74, 105, 136, 137, 138]) (hk : 7 < k) {B : PV} {bs : List Beat} (H : Heard T B bs) (ap : Apart bs) (hb : ∀ b ∈ bs, Fit 900 b.1 ∧ Txt b.2) {U q : Rat} (hU : Fit 400 U) (hq : Fit 400 q) (u0 : 0 < U) (q0 : 0 < q) (ok : okBeats bs U = true) (hN : (U / q).floor < 2 ^ 19) :
    runFn T k 138 [B, fr U, fr q] st = .ok (.own ((rnds bs U q).map fr)) st := by
  have hlim : lim = 1000000 := rfl
  rw [run_at (h.at 138) (by omega), b138_eq]
  have e0 := check_ok (T := T) (k := k - 1) (st := st) h.sub (by omega) H (hU.mono (by decide)) (hq.mono (by decide)) u0 q0 ok
  have nz : q ≠ 0 := by grind
  have e1 := over_ok (T := T) (k := k - 1) (st := st) h.sub (by omega) (a := U) (b := q) (hU.mono (by decide)) (hq.mono (by decide)) nz
  have e2 := floor_ok (T := T) (k := k - 1) (st := st) h.sub (by omega) (a := U / q) ((fit_over hU hq nz).mono (by decide))
  have f0 : 0 ≤ (U / q).floor := Rat.le_floor_iff.mpr (by
    show (0 : Rat) ≤ _
    rw [Rat.div_def]
    exact Rat.mul_nonneg (Rat.le_of_lt u0) (Rat.le_of_lt (Rat.inv_pos.mpr q0)))
  unfold rnds
  generalize (U / q).floor = A at e2 f0 hN ⊢
  have er := rng2_any (i := 1) (j := A + 1)
  rw [show (A + 1 - 1).toNat = A.toNat by omega] at er
  obtain ⟨ρ', e8, c3, c6, rfl⟩ := forGo_pre (st := st) (g := gName 3) (body := b138_3b (runFn T (k - 1))) PV.int (nums 1 A.toNat)
    (fun pre ρ => ∃ c3 c6, ρ = [.val B, .val (fr U), .val (fr q), c3, .val (dctB bs), .own ((((pre.filter fun m : Int => mayB bs U (q * (m : Rat))).map fun m : Int => q * (m : Rat))).map fr), c6]) (by
      rintro pre y post ρ ep ⟨c3, c6, rfl⟩
      have my := mem_nums (lo := 1) (n := A.toNat) (x := y) (by rw [ep]; exact List.mem_append_right _ List.mem_cons_self)
      have fy : Fit 20 ((y : Int) : Rat) := fit_int (by omega) (by decide)
      have e9 := product_ok (T := T) (k := k - 1) (st := st) h.sub (by omega) (a := q) (b := (y : Rat)) (hq.mono (by decide)) (fy.mono (by decide))
      rw [← fr_int] at e9
      have fq := fit_mul hq fy
      have em := may_ok (T := T) (k := k - 1) (st := st) h.sub (by omega) H.hB hb (U := U) (q := q * (y : Rat)) (hU.mono (by decide)) (fq.mono (by decide))
      have hp : (((pre.filter fun m : Int => mayB bs U (q * (m : Rat))).map fun m : Int => q * (m : Rat)).map fr).length < lim := by
        rw [List.length_map, List.length_map]
        have h1 := List.length_filter_le (fun m : Int => mayB bs U (q * (m : Rat))) pre
        have h2 := congrArg List.length ep
        unfold nums at h2
        rw [List.length_map, List.length_range, List.length_append] at h2
        omega
      have nx : ((pre ++ [y]).filter fun m : Int => mayB bs U (q * (m : Rat))).map (fun m : Int => q * (m : Rat)) = (pre.filter fun m : Int => mayB bs U (q * (m : Rat))).map (fun m : Int => q * (m : Rat)) ++ (if mayB bs U (q * (y : Rat)) then [q * (y : Rat)] else []) := by
        rw [List.filter_append, List.map_append]
        congr 1
        rw [List.filter_cons, List.filter_nil]
        split <;> rfl
      rw [nx]
      generalize (pre.filter fun m : Int => mayB bs U (q * (m : Rat))).map (fun m : Int => q * (m : Rat)) = acc at hp ⊢
      refine ⟨[.val B, .val (fr U), .val (fr q), .val (.int y), .val (dctB bs), .own (acc.map fr), c6], _, rfl, .inl ?_, .val (.int y), .val (fr (q * (y : Rat))), rfl⟩
      have w1 : b138_3b1 (runFn T (k - 1)) [.val B, .val (fr U), .val (fr q), .val (.int y), .val (dctB bs), .own (acc.map fr), c6] st = .next [.val B, .val (fr U), .val (fr q), .val (.int y), .val (dctB bs), .own (acc.map fr), .val (fr (q * (y : Rat)))] st :=
        set_of (ρ := [.val B, .val (fr U), .val (fr q), .val (.int y), .val (dctB bs), .own (acc.map fr), c6]) (u := 6) (call2 rfl rfl e9)
      have i2 : tVal (eFrz (fCall (runFn T (k - 1)) 137 (aCons (eVar 0) (aCons (eVar 4) (aCons (eVar 1) (aCons (eVar 6) (aNil))))))) [.val B, .val (fr U), .val (fr q), .val (.int y), .val (dctB bs), .own (acc.map fr), .val (fr (q * (y : Rat)))] st = .ok (mayB bs U (q * (y : Rat))) st := by
        rw [tVal_ev, eFrz_ev, fCall_ev, show aCons (eVar 0) (aCons (eVar 4) (aCons (eVar 1) (aCons (eVar 6) (aNil)))) [.val B, .val (fr U), .val (fr q), .val (.int y), .val (dctB bs), .own (acc.map fr), .val (fr (q * (y : Rat)))] st = .ok [B, dctB bs, fr U, fr (q * (y : Rat))] st from rfl, bind_ok, em]
        rfl
      unfold b138_3b b138_3b2
      rw [sSeq_ev, w1, seq_next, sIf_ev, i2, bindS_ok]
      cases mayB bs U (q * (y : Rat)) with
      | false =>
        rw [kIfS_f, sNil_ev, if_neg Bool.false_ne_true, List.append_nil]
      | true =>
        rw [kIfS_t, if_pos rfl, List.map_append]
        have ka := kApp_ev (ρ := [.val B, .val (fr U), .val (fr q), .val (.int y), .val (dctB bs), .own (acc.map fr), .val (fr (q * (y : Rat)))]) (st := st) (i := 5) (p := fr (q * (y : Rat))) hp
        generalize acc.map fr = LL at ka ⊢
        exact ka) (ρ := [.val B, .val (fr U), .val (fr q), .un, .val (dctB bs), .own [], .un]) ⟨.un, .un, rfl⟩
  have w1 : b138_1 (runFn T (k - 1)) [.val B, .val (fr U), .val (fr q), .un, .un, .un, .un] st = .next [.val B, .val (fr U), .val (fr q), .un, .un, .un, .un] st := by
    unfold b138_1 sDrop
    rw [callF (q := .non) (ag3 (p := B) (p2 := fr U) (p3 := fr q) rfl rfl rfl) e0 rfl]
    rfl
  have hd := H.hB.dct ap
  have w2 : b138_2 (runFn T (k - 1)) [.val B, .val (fr U), .val (fr q), .un, .un, .un, .un] st = .next [.val B, .val (fr U), .val (fr q), .un, .val (dctB bs), .own [], .un] st := by
    have i1 : eOpN nDict (aCons (eVar 0) (aNil)) [.val B, .val (fr U), .val (fr q), .un, .un, .un, .un] st = .ok (dctB bs) st := by
      show R.ofOpt (nDict [B]) st = _
      rw [hd]
      rfl
    unfold b138_2
    rw [sPar_ev, fVal_ev, i1]
    rfl
  have i3 : eOp2 pAdd (eFrz (fCall (runFn T (k - 1)) 74 (aCons (eFrz (fCall (runFn T (k - 1)) 72 (aCons (eVar 1) (aCons (eVar 2) (aNil))))) (aNil)))) (eC (.int 1)) [.val B, .val (fr U), .val (fr q), .un, .val (dctB bs), .own [], .un] st = .ok (.int (A + 1)) st := by
    rw [eOp2_ev, call1 (call2 (p := fr U) (p2 := fr q) (st := st) rfl rfl e1) e2]
    rfl
  have w3 : b138_3 (runFn T (k - 1)) [.val B, .val (fr U), .val (fr q), .un, .val (dctB bs), .own [], .un] st = .next [.val B, .val (fr U), .val (fr q), c3, .val (dctB bs), .own (((((nums 1 A.toNat).filter fun m : Int => mayB bs U (q * (m : Rat))).map fun m : Int => q * (m : Rat))).map fr), c6] st := by
    unfold b138_3
    rw [sFor_ev, wRng2_ev, eC_ev, bind_ok, kLs2_ev, i3, bind_ok, kLs_ev, er, ofOpt_some, bindS_ok, kFor_ev, e8]
  show BR.finish (b138_ (runFn T (k - 1)) [.val B, .val (fr U), .val (fr q), .un, .un, .un, .un] st) = _
  unfold b138_
  rw [sSeq_ev, w1, seq_next, sSeq_ev, w2, seq_next, sSeq_ev, w3, seq_next]
  rfl
end
end BP
set_option Elab.async false
set_option linter.all false
set_option maxRecDepth 100000
set_option maxHeartbeats 4000000
set_option exponentiation.threshold 10000
namespace BP
open BR PySem
def b139_1 (_call : CallT) : SM := sSet 3 (fVal (eC .non))
def b139_2b1 (call : CallT) : SM := sSet 6 (fVal (eFrz (fCall call 75 (aCons (eFrz (fCall call 72 (aCons (eFrz (fCall call 70 (aCons (eVar 1) (aCons (eVar 4) (aNil))))) (aCons (eVar 2) (aNil))))) (aNil)))))
def b139_2b2 (call : CallT) : SM := sSet 7 (fVal (eFrz (fCall call 69 (aCons (eVar 4) (aCons (eFrz (fCall call 71 (aCons (eVar 2) (aCons (eTup (aCons (eVar 6) (aCons (eC (.int 1)) (aNil)))) (aNil))))) (aNil))))))
def b139_2b3 (call : CallT) : SM := sIf (tOr (tVal (eOp2 pIsN (eVar 3) (eC .non))) (tVal (eFrz (fCall call 73 (aCons (eVar 7) (aCons (eOp2S pIdxS (eVar 3) (eC (.int 0))) (aNil))))))) (sSet 3 (fVal (eTup (aCons (eVar 7) (aCons (eVar 5) (aNil)))))) (sNil)
def b139_2b (call : CallT) : SM := sIf (tVal (eFrz (fCall call 73 (aCons (eVar 4) (aCons (eVar 2) (aNil)))))) (sSeq (b139_2b1 call) (sSeq (b139_2b2 call) (b139_2b3 call))) (sNil)
def b139_ (call : CallT) : SM := sSeq (b139_1 call) (sSeq (sFor (wItems (eVar 0)) (gTup [gName 4, gName 5]) (b139_2b call)) (sRet (fVal (eVar 3))))
theorem b139_eq (call : CallT) : b139 call = b139_ call := rfl
/-- when a beat comes from U on, after periods q -/
def come (U q : Rat) (b : Beat) : Rat := b.1 + q * (((U - b.1) / q).ceil : Rat)
def nxS (U q : Rat) (o : Option Beat) (b : Beat) : Option Beat := if b.1 < q then (match o with
  | none => some (come U q b, b.2)
  | some x => if come U q b < x.1 then some (come U q b, b.2) else some x) else o
def nxt (bs : List Beat) (U q : Rat) : Option Beat := bs.foldl (nxS U q) none
def obt : Option Beat → PV
  | none => .non
  | some b => bt b
section
variable {T : Nat → Option Fn} {k : Nat} {st : Store}
theorem next_ok (h : Has T [65, 67, 69, 70, 71, 72, 73, 75, 139]) (hk : 7 < k) {B : PV} {bs : List Beat} (hB : BeatsPV B bs) (hb : ∀ b ∈ bs, Fit 300 b.1) {U q : Rat} (hU : Fit 300 U) (hq : Fit 300 q) (q0 : 0 < q) :
    runFn T k 139 [B, fr U, fr q] st = .ok (.val (obt (nxt bs U q))) st := by
  rw [run_at (h.at 139) (by omega), b139_eq]
  have nz : q ≠ 0 := by grind
  have key := forGo_rel (st := st) (g := gTup [gName 4, gName 5]) (body := b139_2b (runFn T (k - 1))) bt
    (fun (o : Option Beat) ρ => (∀ x, o = some x → Fit 2000 x.1) ∧ ∃ c4 c5 c6 c7, ρ = [.val B, .val (fr U), .val (fr q), .val (obt o), c4, c5, c6, c7]) (nxS U q) bs none [.val B, .val (fr U), .val (fr q), .val .non, .un, .un, .un, .un] ⟨(fun _ h => nomatch h), _, _, _, _, rfl⟩ (by
      rintro o ρ b mb ⟨fo, c4, c5, c6, c7, rfl⟩
      have fb := hb b mb
      have e0 := is_less_ok (T := T) (k := k - 1) (st := st) h.sub (by omega) (a := b.1) (b := q) (fb.mono (by decide)) (hq.mono (by decide))
      have i0 : tVal (eFrz (fCall (runFn T (k - 1)) 73 (aCons (eVar 4) (aCons (eVar 2) (aNil))))) [.val B, .val (fr U), .val (fr q), .val (obt o), .val (fr b.1), .val (.str b.2), c6, c7] st = .ok (decide (b.1 < q)) st := by
        rw [tVal_ev, call2 (p := fr b.1) (p2 := fr q) (st := st) rfl rfl e0]
        rfl
      by_cases hlt : b.1 < q
      · have e1 := less_ok (T := T) (k := k - 1) (st := st) h.sub (by omega) (a := U) (b := b.1) (hU.mono (by decide)) (fb.mono (by decide))
        have f1 : Fit 601 (U - b.1) := by
          rw [Rat.sub_eq_add_neg]
          exact (fit_add hU (show Fit 300 (-b.1) from ⟨by rw [Rat.neg_num, Int.natAbs_neg]; exact fb.1, fb.2⟩)).mono (by decide)
        have e2 := over_ok (T := T) (k := k - 1) (st := st) h.sub (by omega) (a := U - b.1) (b := q) (f1.mono (by decide)) (hq.mono (by decide)) nz
        have f2 := fit_over f1 hq nz
        have e3 := ceiling_ok (T := T) (k := k - 1) (st := st) h.sub (by omega) (a := (U - b.1) / q) (f2.mono (by decide))
        have f3 : Fit 902 (((((U - b.1) / q).ceil : Int)) : Rat) := by
          refine fit_int ?_ (by decide)
          rw [Rat.ceil_eq_neg_floor_neg, Int.natAbs_neg]
          exact Nat.lt_of_lt_of_le (fit_floor (m := 901) ⟨by rw [Rat.neg_num, Int.natAbs_neg]; exact f2.1, f2.2⟩) (Nat.pow_le_pow_right (by decide) (by decide))
        have e4 := product_ok (T := T) (k := k - 1) (st := st) h.sub (by omega) (a := q) (b := ((((U - b.1) / q).ceil : Int) : Rat)) (hq.mono (by decide)) (f3.mono (by decide))
        rw [← fr_int] at e4
        have f4 := fit_mul hq f3
        have e5 := added_ok (T := T) (k := k - 1) (st := st) h.sub (by omega) (a := b.1) (b := q * ((((U - b.1) / q).ceil : Int) : Rat)) (fb.mono (by decide)) (f4.mono (by decide))
        have fc : Fit 2000 (come U q b) := (fit_add fb f4).mono (by decide)
        have ec : b.1 + q * ((((U - b.1) / q).ceil : Int) : Rat) = come U q b := rfl
        rw [ec] at e5
        generalize ((U - b.1) / q).ceil = m at e3 e4 e5
        have w1 : b139_2b1 (runFn T (k - 1)) [.val B, .val (fr U), .val (fr q), .val (obt o), .val (fr b.1), .val (.str b.2), c6, c7] st = .next [.val B, .val (fr U), .val (fr q), .val (obt o), .val (fr b.1), .val (.str b.2), .val (.int m), c7] st :=
          set_of (ρ := [.val B, .val (fr U), .val (fr q), .val (obt o), .val (fr b.1), .val (.str b.2), c6, c7]) (u := 6) (call1 (call2 (call2 rfl rfl e1) rfl e2) e3)
        have w2 : b139_2b2 (runFn T (k - 1)) [.val B, .val (fr U), .val (fr q), .val (obt o), .val (fr b.1), .val (.str b.2), .val (.int m), c7] st = .next [.val B, .val (fr U), .val (fr q), .val (obt o), .val (fr b.1), .val (.str b.2), .val (.int m), .val (fr (come U q b))] st :=
          set_of (ρ := [.val B, .val (fr U), .val (fr q), .val (obt o), .val (fr b.1), .val (.str b.2), .val (.int m), c7]) (u := 7) (call2 rfl (call2 rfl rfl e4) e5)
        have w3 : b139_2b3 (runFn T (k - 1)) [.val B, .val (fr U), .val (fr q), .val (obt o), .val (fr b.1), .val (.str b.2), .val (.int m), .val (fr (come U q b))] st = .next [.val B, .val (fr U), .val (fr q), .val (obt (nxS U q o b)), .val (fr b.1), .val (.str b.2), .val (.int m), .val (fr (come U q b))] st := by
          unfold nxS
          rw [if_pos hlt]
          cases o with
          | none => rfl
          | some x =>
            have e6 := is_less_ok (T := T) (k := k - 1) (st := st) h.sub (by omega) (a := come U q b) (b := x.1) (fc.mono (by decide)) ((fo x rfl).mono (by decide))
            have t1 : tVal (eOp2 pIsN (eVar 3) (eC .non)) [.val B, .val (fr U), .val (fr q), .val (obt (some x)), .val (fr b.1), .val (.str b.2), .val (.int m), .val (fr (come U q b))] st = .ok false st := rfl
            have t2 : tVal (eFrz (fCall (runFn T (k - 1)) 73 (aCons (eVar 7) (aCons (eOp2S pIdxS (eVar 3) (eC (.int 0))) (aNil))))) [.val B, .val (fr U), .val (fr q), .val (obt (some x)), .val (fr b.1), .val (.str b.2), .val (.int m), .val (fr (come U q b))] st = .ok (decide (come U q b < x.1)) st := by
              rw [tVal_ev, call2 (p := fr (come U q b)) (p2 := fr x.1) (st := st) rfl rfl e6]
              rfl
            unfold b139_2b3
            rw [sIf_ev, tOr_ev, t1, bind_ok, kOr_f, t2, bindS_ok]
            by_cases hx : come U q b < x.1
            · rw [decide_eq_true hx, kIfS_t]
              simp only
              rw [if_pos hx]
              rfl
            · rw [decide_eq_false hx, kIfS_f, sNil_ev]
              simp only
              rw [if_neg hx]
        refine ⟨_, [.val B, .val (fr U), .val (fr q), .val (obt (nxS U q o b)), .val (fr b.1), .val (.str b.2), .val (.int m), .val (fr (come U q b))], rfl, .inl ?_, fun x hx => ?_, _, _, _, _, rfl⟩
        · show b139_2b (runFn T (k - 1)) [.val B, .val (fr U), .val (fr q), .val (obt o), .val (fr b.1), .val (.str b.2), c6, c7] st = _
          unfold b139_2b
          rw [sIf_ev, i0, decide_eq_true hlt, bindS_ok, kIfS_t, sSeq_ev, w1, seq_next, sSeq_ev, w2, seq_next, w3]
        · unfold nxS at hx
          rw [if_pos hlt] at hx
          cases o with
          | none => cases hx; exact fc
          | some z =>
            simp only at hx
            split at hx
            · cases hx; exact fc
            · cases hx; exact fo _ rfl
      · refine ⟨_, [.val B, .val (fr U), .val (fr q), .val (obt (nxS U q o b)), .val (fr b.1), .val (.str b.2), c6, c7], rfl, .inl ?_, fun x hx => ?_, _, _, _, _, rfl⟩
        · show b139_2b (runFn T (k - 1)) [.val B, .val (fr U), .val (fr q), .val (obt o), .val (fr b.1), .val (.str b.2), c6, c7] st = _
          unfold b139_2b nxS
          rw [sIf_ev, i0, decide_eq_false hlt, bindS_ok, kIfS_f, sNil_ev, if_neg hlt]
        · unfold nxS at hx
          rw [if_neg hlt] at hx
          exact fo x hx)
  obtain ⟨ρ', e8, _, c4, c5, c6, c7, rfl⟩ := key
  have wi : wItems (eVar 0) [.val B, .val (fr U), .val (fr q), .val .non, .un, .un, .un, .un] st = .ok (bs.map bt) st := by
    show (R.ok B st).bind (kLs itemsOf) = _
    rw [bind_ok, kLs_ev, hB.it]
    rfl
  show BR.finish (b139_ (runFn T (k - 1)) [.val B, .val (fr U), .val (fr q), .un, .un, .un, .un, .un] st) = _
  unfold b139_
  rw [sSeq_ev, show b139_1 (runFn T (k - 1)) [.val B, .val (fr U), .val (fr q), .un, .un, .un, .un, .un] st = .next [.val B, .val (fr U), .val (fr q), .val .non, .un, .un, .un, .un] st from rfl, seq_next, sSeq_ev, sFor_ev, wi, bindS_ok, kFor_ev, e8, seq_next]
  rfl
end
end BP
set_option Elab.async false
set_option linter.all false
set_option maxRecDepth 100000
set_option maxHeartbeats 4000000
set_option exponentiation.threshold 10000
namespace BP
open BR PySem
section
variable {T : Nat → Option Fn} {k : Nat} {st : Store}
theorem dPut_newV (x : Rat) (v : PV) : ∀ (ws : List (Rat × PV)), (∀ w ∈ ws, w.1 ≠ x) → dPut (fr x) v (ws.map fun w => fr w.1) (ws.map fun w => w.2) = ((ws ++ [(x, v)]).map (fun w => fr w.1), (ws ++ [(x, v)]).map fun w => w.2)
  | [], _ => rfl
  | w :: ws, h => by
    rw [List.map_cons, List.map_cons]
    unfold dPut
    rw [eqv_fr, decide_eq_false (h w List.mem_cons_self), if_neg Bool.false_ne_true, dPut_newV x v ws fun y hy => h y (List.mem_cons_of_mem _ hy)]
    rfl
theorem dcGo_frV {α : Type} {g : GM} {ek ev : EM} {ρ : BR.Env} (b : α → PV) (f : α → Rat × PV) : ∀ (xs : List α) (acc : List (Rat × PV)), (∀ x ∈ xs, ∃ ρ1, g (b x) ρ st = some (ρ1, st) ∧ ek ρ1 st = .ok (fr (f x).1) st ∧ ev ρ1 st = .ok (f x).2 st) →
    (acc ++ xs.map f).Pairwise (fun a b => a.1 ≠ b.1) → acc.length + xs.length ≤ lim → dcGo g tYes ek ev ρ (xs.map b) (acc.map fun w => fr w.1) (acc.map fun w => w.2) st = .ok (.dct ((acc ++ xs.map f).map fun w => fr w.1) ((acc ++ xs.map f).map fun w => w.2)) st
  | [], acc, _, _, _ => by rw [List.map_nil, List.map_nil, List.append_nil]; rfl
  | x :: xs, acc, h, hp, hl => by
    obtain ⟨ρ1, h1, h2, h3⟩ := h x List.mem_cons_self
    have ih := dcGo_frV b f xs (acc ++ [f x]) (fun y hy => h y (List.mem_cons_of_mem _ hy)) (by rw [List.append_assoc]; exact hp) (by rw [List.length_append, List.length_singleton]; rw [List.length_cons] at hl; omega)
    have hn : ∀ w ∈ acc, w.1 ≠ (f x).1 := fun w hw => (List.pairwise_append.mp hp).2.2 w hw (f x) (by rw [List.map_cons]; exact List.mem_cons_self)
    have hd := dPut_newV (f x).1 (f x).2 acc hn
    rw [List.map_cons]
    unfold dcGo
    rw [h1]
    simp only
    rw [show tYes ρ1 st = .ok true st from rfl, noexY, bind_ok, if_pos rfl, h2, noexY, bind_ok, h3, noexY, bind_ok, kok_fr]
    rw [show ((f x).1, (f x).2) = f x from rfl] at hd
    rw [hd]
    rw [List.length_cons] at hl
    rw [List.append_assoc] at ih
    refine (if_pos ?_).trans ih
    rw [List.length_map, Bool.true_and]
    exact decide_eq_true (by omega)
theorem nums_asc (lo : Int) (n : Nat) : (nums lo n).Pairwise (· < ·) := by
  unfold nums
  rw [List.pairwise_map]
  exact List.pairwise_lt_range.imp fun h => by omega
theorem rnds_ne {bs : List Beat} {U q : Rat} (q0 : 0 < q) : (rnds bs U q).Pairwise (· ≠ ·) := by
  unfold rnds
  rw [List.pairwise_map]
  refine ((nums_asc 1 (U / q).floor.toNat).filter _).imp fun {a b} h e => ?_
  have h' : ((a : Int) : Rat) < ((b : Int) : Rat) := Rat.intCast_lt_intCast.mpr h
  have := (Rat.mul_lt_mul_left q0).mpr h'
  rw [e] at this
  exact Rat.lt_irrefl this
theorem rnds_len {bs : List Beat} {U q : Rat} (hN : (U / q).floor < 2 ^ 19) : (rnds bs U q).length ≤ 2 ^ 19 := by
  unfold rnds
  rw [List.length_map]
  refine Nat.le_trans (List.length_filter_le _ _) ?_
  unfold nums
  rw [List.length_map, List.length_range]
  omega
theorem rnds_mem {bs : List Beat} {U q x : Rat} (h : x ∈ rnds bs U q) : ∃ m : Int, 1 ≤ m ∧ m ≤ (U / q).floor ∧ x = q * (m : Rat) ∧ mayB bs U x = true := by
  unfold rnds at h
  obtain ⟨m, hm, rfl⟩ := List.mem_map.mp h
  obtain ⟨h1, h2⟩ := List.mem_filter.mp hm
  have := mem_nums h1
  exact ⟨m, this.1, by omega, rfl, h2⟩
theorem expected_ok (h : Has T [64, 65, 67, 68, 69, 70, 71, 72, 73, 74, 75, 105, 136, 137, 138, 139, 140]) (hk : 9 < k) {B : PV} {bs : List Beat} (H : Heard T B bs) (ap : Apart bs) (hb : ∀ b ∈ bs, Fit 300 b.1 ∧ Txt b.2) {U q : Rat} (hU : Fit 250 U) (hq : Fit 250 q) (u0 : 0 < U) (q0 : 0 < q) (ok : okBeats bs U = true) (hN : (U / q).floor < 2 ^ 19) :
    runFn T k 140 [B, fr U, fr q] st = .ok (.val (.dct ((rnds bs U q).map fr) ((rnds bs U q).map fun r => obt (nxt bs U r)))) st := by
  have hlim : lim = 1000000 := rfl
  rw [run_at (h.at 140) (by omega)]
  have e1 := rounds_ok (T := T) (k := k - 1) (st := st) h.sub (by omega) H ap (fun b hb' => ⟨(hb b hb').1.mono (by decide), (hb b hb').2⟩) (hU.mono (by decide)) (hq.mono (by decide)) u0 q0 ok hN
  have i1 : wItems (eFrz (fCall (runFn T (k - 1)) 138 (aCons (eVar 0) (aCons (eVar 1) (aCons (eVar 2) (aNil)))))) [.val B, .val (fr U), .val (fr q), .un] st = .ok ((rnds bs U q).map fr) st := by
    rw [wItems_ev, callF (q := .lst ((rnds bs U q).map fr)) (ag3 (p := B) (p2 := fr U) (p3 := fr q) rfl rfl rfl) e1 rfl]
    rfl
  have ln := rnds_len (bs := bs) hN
  have go := dcGo_frV (st := st) (g := gName 3) (ek := eVar 3) (ev := eFrz (fCall (runFn T (k - 1)) 139 (aCons (eVar 0) (aCons (eVar 1) (aCons (eVar 3) (aNil)))))) (ρ := [.val B, .val (fr U), .val (fr q), .un]) fr (fun r => (r, obt (nxt bs U r))) (rnds bs U q) [] (by
    intro r mr
    obtain ⟨m, m1, m2, er, _⟩ := rnds_mem mr
    have fm : Fit 20 ((m : Int) : Rat) := fit_int (by omega) (by decide)
    have f1 : Fit 300 r := by rw [er]; exact (fit_mul hq fm).mono (by decide)
    have r0 : 0 < r := by
      rw [er]
      exact Rat.mul_pos q0 (by exact_mod_cast (by omega : 0 < m))
    have e2 := next_ok (T := T) (k := k - 1) (st := st) h.sub (by omega) H.hB (fun b hb' => (hb b hb').1) (U := U) (q := r) (hU.mono (by decide)) f1 r0
    exact ⟨[.val B, .val (fr U), .val (fr q), .val (fr r)], rfl, rfl, callF (ag3 rfl rfl rfl) e2 rfl⟩) (by
    rw [List.nil_append, List.pairwise_map]
    exact rnds_ne q0) (by rw [List.length_nil]; omega)
  rw [List.nil_append, List.map_map, List.map_map] at go
  show BR.finish (b140 (runFn T (k - 1)) [.val B, .val (fr U), .val (fr q), .un] st) = _
  unfold b140 eDc
  rw [sRet_ev, fVal_ev, i1, bind_ok]
  exact congrArg (fun x : R PV => BR.finish ((x.bind kVal).bindS _ kRet)) go
end
end BP
set_option Elab.async false
set_option linter.all false
set_option maxRecDepth 100000
set_option maxHeartbeats 4000000
namespace BP
open BR PySem
theorem nx_fold (U q : Rat) : ∀ (bs : List Beat) (o : Option Beat), (bs.foldl (nxS U q) o = none → o = none ∧ ∀ b ∈ bs, ¬ b.1 < q) ∧
    ∀ y, bs.foldl (nxS U q) o = some y → (o = some y ∨ ∃ b ∈ bs, b.1 < q ∧ y = (come U q b, b.2)) ∧ (∀ x, o = some x → y.1 ≤ x.1) ∧ ∀ b ∈ bs, b.1 < q → y.1 ≤ come U q b
  | [], o => ⟨fun h => ⟨h, fun _ hb => nomatch hb⟩, fun y h => ⟨.inl h, fun x hx => by
      rw [List.foldl_nil] at h
      rw [h] at hx
      cases hx
      exact Rat.le_refl, fun _ hb => nomatch hb⟩⟩
  | b :: bs, o => by
    obtain ⟨h1, h2⟩ := nx_fold U q bs (nxS U q o b)
    rw [List.foldl_cons]
    by_cases hb : b.1 < q
    · cases o with
      | none =>
        have e : nxS U q none b = some (come U q b, b.2) := by unfold nxS; rw [if_pos hb]
        rw [e] at h1 h2
        rw [e]
        refine ⟨(fun h => nomatch (h1 h).1), fun y hy => ?_⟩
        obtain ⟨a1, a2, a3⟩ := h2 y hy
        refine ⟨.inr ?_, (fun _ hx => nomatch hx), fun c hc hq => ?_⟩
        · rcases a1 with a1 | ⟨c, hc, hq, ec⟩
          · cases a1
            exact ⟨b, List.mem_cons_self, hb, rfl⟩
          · exact ⟨c, List.mem_cons_of_mem _ hc, hq, ec⟩
        · rcases List.mem_cons.mp hc with ec | hc
          · rw [ec]
            exact a2 _ rfl
          · exact a3 c hc hq
      | some z =>
        have e : nxS U q (some z) b = if come U q b < z.1 then some (come U q b, b.2) else some z := by unfold nxS; rw [if_pos hb]
        rw [e] at h1 h2
        rw [e]
        by_cases hz : come U q b < z.1
        · rw [if_pos hz] at h1 h2 ⊢
          refine ⟨(fun h => nomatch (h1 h).1), fun y hy => ?_⟩
          obtain ⟨a1, a2, a3⟩ := h2 y hy
          have a0 : y.1 ≤ come U q b := a2 _ rfl
          refine ⟨.inr ?_, fun x hx => ?_, fun c hc hq => ?_⟩
          · rcases a1 with a1 | ⟨c, hc, hq, ec⟩
            · cases a1
              exact ⟨b, List.mem_cons_self, hb, rfl⟩
            · exact ⟨c, List.mem_cons_of_mem _ hc, hq, ec⟩
          · cases hx
            exact Rat.le_trans a0 (Rat.le_of_lt hz)
          · rcases List.mem_cons.mp hc with ec | hc
            · rw [ec]
              exact a0
            · exact a3 c hc hq
        · rw [if_neg hz] at h1 h2 ⊢
          refine ⟨(fun h => nomatch (h1 h).1), fun y hy => ?_⟩
          obtain ⟨a1, a2, a3⟩ := h2 y hy
          have a0 : y.1 ≤ z.1 := a2 _ rfl
          refine ⟨?_, fun x hx => by cases hx; exact a0, fun c hc hq => ?_⟩
          · rcases a1 with a1 | ⟨c, hc, hq, ec⟩
            · exact .inl a1
            · exact .inr ⟨c, List.mem_cons_of_mem _ hc, hq, ec⟩
          · rcases List.mem_cons.mp hc with ec | hc
            · rw [ec]
              exact Rat.le_trans a0 (Rat.not_lt.mp hz)
            · exact a3 c hc hq
    · have e : nxS U q o b = o := by unfold nxS; rw [if_neg hb]
      rw [e] at h1 h2
      rw [e]
      refine ⟨fun h => ⟨(h1 h).1, fun c hc => ?_⟩, fun y hy => ?_⟩
      · rcases List.mem_cons.mp hc with ec | hc
        · rw [ec]; exact hb
        · exact (h1 h).2 c hc
      · obtain ⟨a1, a2, a3⟩ := h2 y hy
        refine ⟨?_, a2, fun c hc hq => ?_⟩
        · rcases a1 with a1 | ⟨c, hc, hq, ec⟩
          · exact .inl a1
          · exact .inr ⟨c, List.mem_cons_of_mem _ hc, hq, ec⟩
        · rcases List.mem_cons.mp hc with ec | hc
          · rw [ec] at hq
            exact absurd hq hb
          · exact a3 c hc hq
end BP
set_option Elab.async false
set_option linter.all false
set_option maxRecDepth 100000
set_option maxHeartbeats 4000000
namespace BP
open BR PySem
def below (bs : List Beat) (q : Rat) : List Beat := bs.filter fun b => decide (b.1 < q)
theorem q_div {q : Rat} (q0 : 0 < q) (x : Rat) : q * (x / q) = x := by
  rw [Rat.div_def, Rat.mul_comm x, ← Rat.mul_assoc, Rat.mul_inv_cancel q (by grind), Rat.one_mul]
theorem come_in {U q : Rat} (q0 : 0 < q) (b : Beat) : U ≤ come U q b ∧ come U q b < U + q := by
  unfold come
  have h1 := Rat.mul_le_mul_of_nonneg_left (Rat.le_ceil (x := (U - b.1) / q)) (Rat.le_of_lt q0)
  have h2 := (Rat.mul_lt_mul_left q0).mpr (Rat.ceil_lt (x := (U - b.1) / q))
  have e := q_div q0 (U - b.1)
  rw [e] at h1
  generalize (((U - b.1) / q).ceil : Rat) = c at h1 h2 ⊢
  generalize (U - b.1) / q = x at h2 e
  exact ⟨by grind, by grind⟩
theorem come_le {U q : Rat} (q0 : 0 < q) (b : Beat) {z : Int} (h : U ≤ q * (z : Rat) + b.1) : come U q b ≤ q * (z : Rat) + b.1 := by
  unfold come
  have e := q_div q0 (U - b.1)
  have hz : (U - b.1) / q ≤ (z : Rat) := by
    refine Rat.not_lt.mp fun l => ?_
    have := (Rat.mul_lt_mul_left q0).mpr l
    rw [e] at this
    grind
  have hc : ((U - b.1) / q).ceil ≤ z := Rat.ceil_le_iff.mpr hz
  have h2 : ((((U - b.1) / q).ceil : Int) : Rat) ≤ (z : Rat) := Rat.intCast_le_intCast.mpr hc
  have := Rat.mul_le_mul_of_nonneg_left h2 (Rat.le_of_lt q0)
  grind
theorem head_least : ∀ {l : List Beat} {y : Beat}, Asc1 l → y ∈ l → (∀ x ∈ l, y.1 ≤ x.1) → l[0]? = some y
  | [], _, _, h, _ => nomatch h
  | x :: l, y, ha, hy, hm => by
    rcases List.mem_cons.mp hy with e | h
    · rw [e]; rfl
    · have := (List.pairwise_cons.mp ha).1 y h
      have h2 := hm x List.mem_cons_self
      exfalso
      grind
theorem nxt_head {bs : List Beat} {U q E : Rat} (q0 : 0 < q) (M : Mach q (below bs q)) (hE : U + q ≤ E) {y : Beat} (h : nxt bs U q = some y) : (betw q (below bs q) U E)[0]? = some y := by
  obtain ⟨a1, _, a3⟩ := (nx_fold U q bs none).2 y h
  rcases a1 with a1 | ⟨b, hb, hq, rfl⟩
  · cases a1
  · have mb : b ∈ below bs q := List.mem_filter.mpr ⟨hb, decide_eq_true hq⟩
    have ci := come_in (U := U) q0 b
    refine head_least (betw_asc M) ?_ fun x hx => ?_
    · rw [mem_betw_iff M]
      obtain ⟨b0, b1, b2⟩ := M.inn b mb
      refine ⟨ci.1, ?_, b2, ?_⟩
      · show come U q b < E
        grind
      · show snd q (below bs q) (come U q b) = b.2
        unfold snd come
        rw [rbey_add q0, rbey_id b0 b1]
        exact look_mem M.asc mb
    · obtain ⟨z, c, _, _, hc, ex, h1, _⟩ := mem_betw hx
      have mc := List.mem_filter.mp hc
      have l1 := a3 c mc.1 (of_decide_eq_true mc.2)
      have e1 : x.1 = q * (z : Rat) + c.1 := by rw [ex]
      have l2 := come_le (U := U) q0 c (z := z) (by rw [← e1]; exact Rat.not_lt.mp h1)
      show come U q b ≤ x.1
      rw [e1]
      exact Rat.le_trans l1 l2
end BP
set_option Elab.async false
set_option linter.all false
set_option maxRecDepth 100000
set_option maxHeartbeats 4000000
set_option exponentiation.threshold 10000
namespace K10
open PySem BR MX BP
def ids : List Nat := [64, 65, 67, 68, 69, 70, 71, 72, 73, 74, 75, 105, 106, 107, 108, 136, 137, 138, 139, 140, 161, 162, 163, 164, 183, 184, 185, 186]
theorem has : Has T ids := by
  unfold ids
  repeat (first | exact Has.nil | refine Has.cons rfl ?_)
def b0_1 (call : CallT) : SM := sSet 1 (fVal (eNewL (fLst (aCons (eVar 0) (aCons (eC (.int 0)) (aCons (eC (.int 20)) (aCons (eC (.int 0)) (aNil))))))))
def b0_2b1 (call : CallT) : SM := sAsg (eFrz (fCall call 184 (aCons (eVar 1) (aNil)))) (gTup [gName 11, gName 12])
def b0_2b2 (call : CallT) : SM := sSet 4 (fVal (eFrz (fCall call 162 (aCons (eFrz (fCall call 163 (aCons (eVar 11) (aCons (eTup (aCons (eOp2 pAdd (eC (.int 1)) (eFrz (fCall call 183 (aCons (eVar 1) (aCons (eC (.int 3)) (aNil)))))) (aCons (eC (.int 1)) (aNil)))) (aNil))))) (aCons (eFrz (fCall call 161 (aCons (eOp2 pAdd (eC (.int 1)) (eFrz (fCall call 183 (aCons (eVar 1) (aCons (eC (.int 5)) (aNil)))))) (aCons (eC (.int 2)) (aNil))))) (aNil))))))
def b0_2b3 (call : CallT) : SM := sSet 5 (fCall call 186 (aCons (eFrz (fCall call 185 (aCons (eVar 11) (aCons (eVar 12) (aNil))))) (aCons (eTup (aCons (eC (.int 0)) (aCons (eC (.int 1)) (aNil)))) (aCons (eVar 4) (aNil)))))
def b0_2b4 (call : CallT) : SM := sIf (tAnd (tVal (eOp2 pGt (eLenOwn 5) (eC (.int 0)))) (tVal (eOp2 pEq (eFrz (fCall call 183 (aCons (eVar 1) (aCons (eC (.int 3)) (aNil))))) (eC (.int 0))))) (sPop 5 (eFrz (fCall call 183 (aCons (eVar 1) (aCons (eLenOwn 5) (aNil)))))) (sNil)
def b0_2b5 (call : CallT) : SM := sSet 6 (fVal (eFrz (fCall call 161 (aCons (eOp2 pAdd (eC (.int 1)) (eFrz (fCall call 183 (aCons (eVar 1) (aCons (eC (.int 3)) (aNil)))))) (aCons (eOp2 pAdd (eC (.int 1)) (eFrz (fCall call 183 (aCons (eVar 1) (aCons (eC (.int 4)) (aNil)))))) (aNil))))))
def b0_2b6 (call : CallT) : SM := sPar 13 14 (fLst (aNil)) (fVal (eC (.int 1)))
def b0_2b7 (call : CallT) : SM := sFrz 5
def b0_2b8b1 (call : CallT) : SM := sIf (tVal (eFrz (fCall call 1 (aCons (eVar 5) (aCons (eVar 4) (aCons (eFrz (fCall call 163 (aCons (eVar 6) (aCons (eTup (aCons (eVar 14) (aCons (eC (.int 1)) (aNil)))) (aNil))))) (aNil))))))) (sApp 13 (eFrz (fCall call 163 (aCons (eVar 6) (aCons (eTup (aCons (eVar 14) (aCons (eC (.int 1)) (aNil)))) (aNil)))))) (sNil)
def b0_2b8b2 (call : CallT) : SM := sSet 14 (fVal (eOp2 pAdd (eVar 14) (eC (.int 1))))
def b0_2b8b (call : CallT) : SM := sSeq (b0_2b8b1 call) (b0_2b8b2 call)
def b0_2b8 (call : CallT) : SM := sWhile (tNot (tVal (eFrz (fCall call 164 (aCons (eVar 4) (aCons (eFrz (fCall call 163 (aCons (eVar 6) (aCons (eTup (aCons (eVar 14) (aCons (eC (.int 1)) (aNil)))) (aNil))))) (aNil))))))) (b0_2b8b call)
def b0_2b9 (call : CallT) : SM := sFrz 13
def b0_2b10 (call : CallT) : SM := sIf (tOr (tVal (eOp2 pNe (eFrz (fCall call 138 (aCons (eVar 5) (aCons (eVar 4) (aCons (eVar 6) (aNil)))))) (eVar 13))) (tVal (eOp2 pNe (eFrz (fCall call 138 (aCons (eOpN nTuple (aCons (eVar 5) (aNil))) (aCons (eVar 4) (aCons (eVar 6) (aNil)))))) (eVar 13)))) (sRet (fVal (eC (.bl false)))) (sNil)
def b0_2b11 (call : CallT) : SM := sSet 7 (fVal (eFrz (fCall call 140 (aCons (eVar 5) (aCons (eVar 4) (aCons (eVar 6) (aNil)))))))
def b0_2b12 (call : CallT) : SM := sIf (tVal (eOp2 pNe (eFrz (fListD (eVar 7))) (eVar 13))) (sRet (fVal (eC (.bl false)))) (sNil)
def b0_2b13b (call : CallT) : SM := sIf (tVal (eOp2 pNe (eOp2 pDIdx (eVar 7) (eVar 8)) (eFrz (fCall call 2 (aCons (eVar 5) (aCons (eVar 4) (aCons (eVar 8) (aNil)))))))) (sRet (fVal (eC (.bl false)))) (sNil)
def b0_2b13 (call : CallT) : SM := sFor (wItems (eVar 13)) (gName 8) (b0_2b13b call)
def b0_2b (call : CallT) : SM := sSeq (b0_2b1 call) (sSeq (b0_2b2 call) (sSeq (b0_2b3 call) (sSeq (b0_2b4 call) (sSeq (b0_2b5 call) (sSeq (b0_2b6 call) (sSeq (b0_2b7 call) (sSeq (b0_2b8 call) (sSeq (b0_2b9 call) (sSeq (b0_2b10 call) (sSeq (b0_2b11 call) (sSeq (b0_2b12 call) (b0_2b13 call))))))))))))
def b0_2 (call : CallT) : SM := sFor (wRng1 (eC (.int 3))) (gName 2) (b0_2b call)
def b0_3 (call : CallT) : SM := sSet 3 (fVal (eFrz (fLst (aCons (eC .non) (aCons (eC (.str [97, 98])) (aCons (eNilD) (aCons (eFrz (fLst (aCons (eTup (aCons (eTup (aCons (eC (.int 9)) (aCons (eC (.int 1)) (aNil)))) (aCons (eC (.str [97])) (aNil)))) (aNil)))) (aCons (eFrz (fLst (aCons (eTup (aCons (eTup (aCons (eC (.int 1)) (aCons (eC (.int 1)) (aNil)))) (aCons (eC (.str [97])) (aNil)))) (aCons (eTup (aCons (eTup (aCons (eC (.int 0)) (aCons (eC (.int 1)) (aNil)))) (aCons (eC (.str [97])) (aNil)))) (aNil))))) (aCons (eFrz (fLst (aCons (eTup (aCons (eTup (aCons (eC (.int 0)) (aCons (eC (.int 1)) (aNil)))) (aCons (eC (.str [])) (aNil)))) (aNil)))) (aCons (eFrz (fLst (aCons (eC (.int 0)) (aNil)))) (aCons (eFrz (fLst (aCons (eTup (aCons (eTup (aCons (eC (.int 0)) (aCons (eC (.int 2)) (aNil)))) (aCons (eC (.str [97])) (aNil)))) (aNil)))) (aNil))))))))))))
def b0_4 (call : CallT) : SM := sIf (tNot (tVal (eFrz (fCall call 3 (aCons (eOp2S pIdxS (eVar 3) (eFrz (fCall call 183 (aCons (eVar 1) (aCons (eOp1S nLenS (eVar 3)) (aNil)))))) (aCons (eTup (aCons (eC (.int 9)) (aCons (eC (.int 1)) (aNil)))) (aCons (eTup (aCons (eC (.int 1)) (aCons (eC (.int 1)) (aNil)))) (aCons (eFrz (fCall call 183 (aCons (eVar 1) (aCons (eC (.int 2)) (aNil))))) (aNil))))))))) (sRet (fVal (eC (.bl false)))) (sNil)
def b0_5 (call : CallT) : SM := sSet 3 (fVal (eFrz (fLst (aCons (eC .non) (aCons (eC (.int 0)) (aCons (eTup (aCons (eC (.int 0)) (aCons (eC (.int 1)) (aNil)))) (aCons (eTup (aCons (eOp1 pNeg (eC (.int 1))) (aCons (eC (.int 1)) (aNil)))) (aCons (eTup (aCons (eC (.int 2)) (aCons (eC (.int 4)) (aNil)))) (aCons (eC (.int 3)) (aCons (eC (.str [49])) (aNil)))))))))))
def b0_6 (call : CallT) : SM := sPar 9 10 (fVal (eOp2S pIdxS (eVar 3) (eFrz (fCall call 183 (aCons (eVar 1) (aCons (eOp1S nLenS (eVar 3)) (aNil))))))) (fVal (eFrz (fCall call 183 (aCons (eVar 1) (aCons (eC (.int 2)) (aNil))))))
def b0_7 (call : CallT) : SM := sRet (fVal (eAnd (eFrz (fCall call 3 (aCons (eFrz (fLst (aNil))) (aCons (eVar 9) (aCons (eTup (aCons (eC (.int 1)) (aCons (eC (.int 1)) (aNil)))) (aCons (eVar 10) (aNil))))))) (eFrz (fCall call 3 (aCons (eFrz (fLst (aNil))) (aCons (eTup (aCons (eC (.int 1)) (aCons (eC (.int 1)) (aNil)))) (aCons (eVar 9) (aCons (eVar 10) (aNil)))))))))
def b0_ (call : CallT) : SM := sSeq (b0_1 call) (sSeq (b0_2 call) (sSeq (b0_3 call) (sSeq (b0_4 call) (sSeq (b0_5 call) (sSeq (b0_6 call) (b0_7 call))))))
theorem b0_eq (call : CallT) : b0 call = b0_ call := rfl
def b1_1 (call : CallT) : SM := sSet 3 (fVal (eOpN nDict (aCons (eVar 0) (aNil))))
def b1_2 (call : CallT) : SM := sSet 4 (fVal (eFrz (fLc (wItems (eVar 0)) [5, 8] (gTup [gName 5, gName 8]) (tYes) (eVar 5))))
def b1_3b1 (call : CallT) : SM := sSet 6 (fVal (eFrz (fCall call 162 (aCons (eVar 5) (aCons (eVar 2) (aNil))))))
def b1_3b2 (call : CallT) : SM := sSet 7 (fVal (eFrz (fCall call 162 (aCons (eVar 5) (aCons (eTup (aCons (eOp2 pSub (eC (.int 0)) (eOp2S pIdxS (eVar 2) (eC (.int 0)))) (aCons (eOp2S pIdxS (eVar 2) (eC (.int 1))) (aNil)))) (aNil))))))
def b1_3b3 (call : CallT) : SM := sIf (tAnd (tVal (eFrz (fCall call 164 (aCons (eVar 6) (aCons (eVar 1) (aNil)))))) (tVal (eOp2 pNe (eDGet (eVar 3) (eVar 6) (eC (.str []))) (eOp2 pDIdx (eVar 3) (eVar 5))))) (sRet (fVal (eC (.bl false)))) (sNil)
def b1_3b4 (call : CallT) : SM := sIf (tAnd (tVal (eOp2 pGe (eOp2S pIdxS (eVar 7) (eC (.int 0))) (eC (.int 0)))) (tVal (eOp2 pNe (eDGet (eVar 3) (eVar 7) (eC (.str []))) (eOp2 pDIdx (eVar 3) (eVar 5))))) (sRet (fVal (eC (.bl false)))) (sNil)
def b1_3b (call : CallT) : SM := sSeq (b1_3b1 call) (sSeq (b1_3b2 call) (sSeq (b1_3b3 call) (b1_3b4 call)))
def b1_3 (call : CallT) : SM := sFor (wItems (eVar 4)) (gName 5) (b1_3b call)
def b1_4 (call : CallT) : SM := sRet (fVal (eC (.bl true)))
def b1_ (call : CallT) : SM := sSeq (b1_1 call) (sSeq (b1_2 call) (sSeq (b1_3 call) (b1_4 call)))
theorem b1_eq (call : CallT) : b1 call = b1_ call := rfl
def b2_1 (call : CallT) : SM := sSet 3 (fVal (eFrz (fLc (wItems (eVar 0)) [5] (gName 5) (tVal (eFrz (fCall call 164 (aCons (eOp2S pIdxS (eVar 5) (eC (.int 0))) (aCons (eVar 2) (aNil)))))) (eVar 5))))
def b2_2 (call : CallT) : SM := sIf (tVal (eOp2 pEq (eVar 3) (eFrz (fLst (aNil))))) (sRet (fVal (eC .non))) (sNil)
def b2_3 (call : CallT) : SM := sSet 4 (fVal (eFrz (fCall call 186 (aCons (eTup (aCons (eVar 2) (aCons (eOpN nTuple (aCons (eVar 3) (aNil))) (aNil)))) (aCons (eVar 1) (aCons (eFrz (fCall call 162 (aCons (eVar 1) (aCons (eFrz (fCall call 162 (aCons (eVar 2) (aCons (eVar 2) (aNil))))) (aNil))))) (aNil)))))))
def b2_4 (call : CallT) : SM := sRet (fVal (eOp2S pIdxS (eVar 4) (eC (.int 0))))
def b2_ (call : CallT) : SM := sSeq (b2_1 call) (sSeq (b2_2 call) (sSeq (b2_3 call) (b2_4 call)))
theorem b2_eq (call : CallT) : b2 call = b2_ call := rfl
section
variable {k : Nat} {st : Store} {bs : List Beat} {U q : Rat}
theorem didx_bt : ∀ {bs : List Beat} {b : Beat}, Asc1 bs → b ∈ bs → pDIdx (dctB bs) (fr b.1) = some (.str b.2) := by
  intro bs b ha hb
  show (if kok (fr b.1) then dGet (fr b.1) (bs.map fun b => fr b.1) (bs.map fun b => .str b.2) else none) = _
  rw [kok_fr, if_pos rfl]
  induction bs with
  | nil => cases hb
  | cons c bs ih =>
    obtain ⟨h1, h2⟩ := List.pairwise_cons.mp ha
    rw [List.map_cons, List.map_cons]
    unfold dGet
    rw [eqv_fr]
    rcases List.mem_cons.mp hb with e | e
    · rw [e, decide_eq_true rfl, if_pos rfl]
    · have := h1 b e
      rw [decide_eq_false fun z => by rw [z] at this; exact Rat.lt_irrefl this, if_neg Bool.false_ne_true]
      exact ih h2 e
theorem fr_neg' (q : Rat) : PV.tup [.int (0 - q.num), .int (q.den : Int)] = fr (-q) := by rw [Int.zero_sub]; exact fr_neg0 q
theorem fit_neg {n : Nat} {q : Rat} (h : Fit n q) : Fit n (-q) := ⟨by rw [Rat.neg_num, Int.natAbs_neg]; exact h.1, h.2⟩
theorem lmay_ok (hk : 2 < k) (ha : Asc1 bs) (hl : bs.length ≤ lim) (hb : ∀ b ∈ bs, Fit 900 b.1 ∧ Txt b.2) (hU : Fit 1000 U) (hq : Fit 1000 q) :
    runFn T k 1 [.lst (bs.map bt), fr U, fr q] st = .ok (.val (.bl (mayB bs U q))) st := by
  rw [run_at (T := T) (id := 1) (ps := 3) (n := 9) (body := b1) rfl (by omega), b1_eq]
  have tl : ∀ t, Txt (look bs t) := fun t => look_txt fun b hb' => (hb b hb').2
  have hd := nDict_bt2 (Pairwise_apart ha)
  have w1 : b1_1 (runFn T (k - 1)) [.val (.lst (bs.map bt)), .val (fr U), .val (fr q), .un, .un, .un, .un, .un, .un] st = .next [.val (.lst (bs.map bt)), .val (fr U), .val (fr q), .val (dctB bs), .un, .un, .un, .un, .un] st := by
    refine set_of (ρ := [.val (.lst (bs.map bt)), .val (fr U), .val (fr q), .un, .un, .un, .un, .un, .un]) (u := 3) ?_
    show R.ofOpt (nDict [.lst (bs.map bt)]) st = _
    rw [hd]
    rfl
  have e2 := fLc_map (st := st) (ρ := [.val (.lst (bs.map bt)), .val (fr U), .val (fr q), .val (dctB bs), .un, .un, .un, .un, .un]) (w := wItems (eVar 0)) (own := [5, 8]) (g := gTup [gName 5, gName 8]) (e := eVar 5) bt (fun b => fr b.1) bs (by simp) hl
    (fun b _ => ⟨[.val (.lst (bs.map bt)), .val (fr U), .val (fr q), .val (dctB bs), .un, .val (fr b.1), .un, .un, .val (.str b.2)], rfl, rfl⟩)
  have w2 : b1_2 (runFn T (k - 1)) [.val (.lst (bs.map bt)), .val (fr U), .val (fr q), .val (dctB bs), .un, .un, .un, .un, .un] st = .next [.val (.lst (bs.map bt)), .val (fr U), .val (fr q), .val (dctB bs), .val (.lst (bs.map fun b => fr b.1)), .un, .un, .un, .un] st := by
    refine set_of (ρ := [.val (.lst (bs.map bt)), .val (fr U), .val (fr q), .val (dctB bs), .un, .un, .un, .un, .un]) (u := 4) ?_
    rw [eFrz_ev, e2]
    rfl
  have key := forGo_find (st := st) (g := gName 5) (body := b1_3b (runFn T (k - 1))) (fun b : Beat => fr b.1) (odd1 bs U q) (fun _ => .val (.bl false))
    (fun ρ => ∃ c5 c6 c7, ρ = [.val (.lst (bs.map bt)), .val (fr U), .val (fr q), .val (dctB bs), .val (.lst (bs.map fun b => fr b.1)), c5, c6, c7, .un]) bs [.val (.lst (bs.map bt)), .val (fr U), .val (fr q), .val (dctB bs), .val (.lst (bs.map fun b => fr b.1)), .un, .un, .un, .un] ⟨_, _, _, rfl⟩ (by
      rintro b mb ρ ⟨c5, c6, c7, rfl⟩
      obtain ⟨fb, tb⟩ := hb b mb
      have e1 := lsum_ok (T := T) (k := k - 1) (st := st) has.sub (by omega) (a := b.1) (b := q) (fb.mono (by decide)) (hq.mono (by decide))
      have e2 := lsum_ok (T := T) (k := k - 1) (st := st) has.sub (by omega) (a := b.1) (b := -q) (fb.mono (by decide)) ((fit_neg hq).mono (by decide))
      have f1 := fit_add fb hq
      have e3 := lless_ok (T := T) (k := k - 1) (st := st) has.sub (by omega) (a := b.1 + q) (b := U) (f1.mono (by decide)) (hU.mono (by decide))
      have di := didx_bt ha mb
      generalize hL : bs.map (fun b => fr b.1) = L4
      generalize hL0 : bs.map bt = L0
      have sm : b.1 + -q = b.1 - q := (Rat.sub_eq_add_neg _ _).symm
      rw [sm] at e2
      generalize hy : b.1 + q = y at e1 e3
      generalize hz : b.1 - q = z at e2
      have w1 : b1_3b1 (runFn T (k - 1)) [.val (.lst L0), .val (fr U), .val (fr q), .val (dctB bs), .val (.lst L4), .val (fr b.1), c6, c7, .un] st = .next [.val (.lst L0), .val (fr U), .val (fr q), .val (dctB bs), .val (.lst L4), .val (fr b.1), .val (fr y), c7, .un] st :=
        set_of (ρ := [.val (.lst L0), .val (fr U), .val (fr q), .val (dctB bs), .val (.lst L4), .val (fr b.1), c6, c7, .un]) (u := 6) (call2 rfl rfl e1)
      have w2 : b1_3b2 (runFn T (k - 1)) [.val (.lst L0), .val (fr U), .val (fr q), .val (dctB bs), .val (.lst L4), .val (fr b.1), .val (fr y), c7, .un] st = .next [.val (.lst L0), .val (fr U), .val (fr q), .val (dctB bs), .val (.lst L4), .val (fr b.1), .val (fr y), .val (fr z), .un] st := by
        refine set_of (ρ := [.val (.lst L0), .val (fr U), .val (fr q), .val (dctB bs), .val (.lst L4), .val (fr b.1), .val (fr y), c7, .un]) (u := 7) (call2 rfl (p2 := fr (-q)) ?_ e2)
        rw [← fr_neg']
        rfl
      have i3 : tVal (eFrz (fCall (runFn T (k - 1)) 164 (aCons (eVar 6) (aCons (eVar 1) (aNil))))) [.val (.lst L0), .val (fr U), .val (fr q), .val (dctB bs), .val (.lst L4), .val (fr b.1), .val (fr y), .val (fr z), .un] st = .ok (decide (y < U)) st := by
        rw [tVal_ev, call2 (p := fr y) (p2 := fr U) (st := st) rfl rfl e3]
        rfl
      have g1 : eDGet (eVar 3) (eVar 6) (eC (.str [])) [.val (.lst L0), .val (fr U), .val (fr q), .val (dctB bs), .val (.lst L4), .val (fr b.1), .val (fr y), .val (fr z), .un] st = .ok (.str (look bs y)) st := dget_ok rfl rfl
      have g2 : eDGet (eVar 3) (eVar 7) (eC (.str [])) [.val (.lst L0), .val (fr U), .val (fr q), .val (dctB bs), .val (.lst L4), .val (fr b.1), .val (fr y), .val (fr z), .un] st = .ok (.str (look bs z)) st := dget_ok rfl rfl
      have g3 : eOp2 pDIdx (eVar 3) (eVar 5) [.val (.lst L0), .val (fr U), .val (fr q), .val (dctB bs), .val (.lst L4), .val (fr b.1), .val (fr y), .val (fr z), .un] st = .ok (.str b.2) st := by
        show R.ofOpt (pDIdx (dctB bs) (fr b.1)) st = _
        rw [di]
        rfl
      have n1 := pNe_str (tl y) tb
      have n2 := pNe_str (tl z) tb
      have t1 : tVal (eOp2 pNe (eDGet (eVar 3) (eVar 6) (eC (.str []))) (eOp2 pDIdx (eVar 3) (eVar 5))) [.val (.lst L0), .val (fr U), .val (fr q), .val (dctB bs), .val (.lst L4), .val (fr b.1), .val (fr y), .val (fr z), .un] st = .ok (!decide (look bs y = b.2)) st := by
        rw [tVal_ev, eOp2_ev, g1, bind_ok, kOp2_ev, g3, bind_ok, kOpt_ev, n1]
        rfl
      have t2 : tVal (eOp2 pNe (eDGet (eVar 3) (eVar 7) (eC (.str []))) (eOp2 pDIdx (eVar 3) (eVar 5))) [.val (.lst L0), .val (fr U), .val (fr q), .val (dctB bs), .val (.lst L4), .val (fr b.1), .val (fr y), .val (fr z), .un] st = .ok (!decide (look bs z = b.2)) st := by
        rw [tVal_ev, eOp2_ev, g2, bind_ok, kOp2_ev, g3, bind_ok, kOpt_ev, n2]
        rfl
      have t3 : tVal (eOp2 pGe (eOp2S pIdxS (eVar 7) (eC (.int 0))) (eC (.int 0))) [.val (.lst L0), .val (fr U), .val (fr q), .val (dctB bs), .val (.lst L4), .val (fr b.1), .val (fr y), .val (fr z), .un] st = .ok (decide (0 ≤ z)) st := by
        have : (0 ≤ z.num) = (0 ≤ z) := propext (le_zero z)
        show R.ok (decide (0 ≤ z.num)) st = _
        simp only [this]
      have r2 : b1_3b3 (runFn T (k - 1)) [.val (.lst L0), .val (fr U), .val (fr q), .val (dctB bs), .val (.lst L4), .val (fr b.1), .val (fr y), .val (fr z), .un] st = if (decide (y < U) && !decide (look bs y = b.2)) = true then SR.ret (.val (.bl false)) st else SR.next [.val (.lst L0), .val (fr U), .val (fr q), .val (dctB bs), .val (.lst L4), .val (fr b.1), .val (fr y), .val (fr z), .un] st := by
        unfold b1_3b3
        rw [sIf_ev, tAnd_ev, i3]
        cases decide (y < U) with
        | false => rfl
        | true =>
          rw [bind_ok, kAnd_t, t1]
          cases decide (look bs y = b.2) <;> rfl
      have r3 : b1_3b4 (runFn T (k - 1)) [.val (.lst L0), .val (fr U), .val (fr q), .val (dctB bs), .val (.lst L4), .val (fr b.1), .val (fr y), .val (fr z), .un] st = if (decide (0 ≤ z) && !decide (look bs z = b.2)) = true then SR.ret (.val (.bl false)) st else SR.next [.val (.lst L0), .val (fr U), .val (fr q), .val (dctB bs), .val (.lst L4), .val (fr b.1), .val (fr y), .val (fr z), .un] st := by
        unfold b1_3b4
        rw [sIf_ev, tAnd_ev, t3]
        cases decide (0 ≤ z) with
        | false => rfl
        | true =>
          rw [bind_ok, kAnd_t, t2]
          cases decide (look bs z = b.2) <;> rfl
      have eo : odd1 bs U q b = ((decide (y < U) && !decide (look bs y = b.2)) || (decide (0 ≤ z) && !decide (look bs z = b.2))) := by
        unfold odd1
        rw [hy, hz]
      refine ⟨[.val (.lst L0), .val (fr U), .val (fr q), .val (dctB bs), .val (.lst L4), .val (fr b.1), c6, c7, .un], rfl, fun ho => ⟨[.val (.lst L0), .val (fr U), .val (fr q), .val (dctB bs), .val (.lst L4), .val (fr b.1), .val (fr y), .val (fr z), .un], ?_, _, _, _, rfl⟩, fun ho => ?_⟩
      · rw [eo, Bool.or_eq_false_iff] at ho
        rw [ho.1, if_neg Bool.false_ne_true] at r2
        rw [ho.2, if_neg Bool.false_ne_true] at r3
        unfold b1_3b
        rw [sSeq_ev, w1, seq_next, sSeq_ev, w2, seq_next, sSeq_ev, r2, seq_next, r3]
      · rw [eo] at ho
        unfold b1_3b
        rw [sSeq_ev, w1, seq_next, sSeq_ev, w2, seq_next, sSeq_ev, r2]
        cases hx : (decide (y < U) && !decide (look bs y = b.2)) with
        | true => rfl
        | false =>
          rw [hx, Bool.false_or] at ho
          rw [if_neg Bool.false_ne_true, seq_next, r3, ho]
          rfl)
  have ei : wItems (eVar 4) [.val (.lst (bs.map bt)), .val (fr U), .val (fr q), .val (dctB bs), .val (.lst (bs.map fun b => fr b.1)), .un, .un, .un, .un] st = .ok (bs.map fun b => fr b.1) st := rfl
  show BR.finish (b1_ (runFn T (k - 1)) [.val (.lst (bs.map bt)), .val (fr U), .val (fr q), .un, .un, .un, .un, .un, .un] st) = _
  unfold b1_
  rw [sSeq_ev, w1, seq_next, sSeq_ev, w2, seq_next, sSeq_ev]
  unfold b1_3
  rw [sFor_ev, ei, bindS_ok, kFor_ev]
  cases hf : bs.find? (odd1 bs U q) with
  | none =>
    obtain ⟨ρ', e, _⟩ := key.1 hf
    have e0 : mayB bs U q = true := by
      unfold mayB
      rw [List.find?_eq_none] at hf
      rw [Bool.not_eq_true', List.any_eq_false]
      exact hf
    rw [e, seq_next, e0]
    rfl
  | some b =>
    have e0 : mayB bs U q = false := by
      unfold mayB
      rw [Bool.not_eq_false', List.any_eq_true]
      exact ⟨b, List.mem_of_find?_eq_some hf, List.find?_some hf⟩
    rw [key.2 b hf, e0]
    rfl
end
end K10
set_option Elab.async false
set_option linter.all false
set_option maxRecDepth 100000
set_option maxHeartbeats 4000000
set_option exponentiation.threshold 10000
namespace K10
open PySem BR MX BP
section
variable {k n : Nat} {st : Store} {bs : List Beat} {U q p : Rat}
theorem below_mach (t : Tame n U bs) (q0 : 0 < q) : Mach q (below bs q) := ⟨q0, t.asc.filter _, fun b hb => by
  have m := List.mem_filter.mp hb
  exact ⟨(t.inn b m.1).1, of_decide_eq_true m.2, okLet_ne (t.inn b m.1).2.2⟩⟩
theorem fit_two {n : Nat} {a b : Rat} (ha : Fit n a) (hb : Fit n b) {m : Nat} (h : n + n + 1 ≤ m) : Fit m (a + b) := (fit_add ha hb).mono h
theorem lnext_ok (hk : 4 < k) (t : Tame n U bs) (hn : n ≤ 200) (fq : Fit 200 q) (q0 : 0 < q) (hN : (U / q).floor < 2 ^ 19) :
    runFn T k 2 [.lst (bs.map bt), fr U, fr q] st = .ok (.val (obt (nxt bs U q))) st := by
  have hlim : lim = 1000000 := rfl
  rw [run_at (T := T) (id := 2) (ps := 3) (n := 6) (body := b2) rfl (by omega), b2_eq]
  have M := below_mach t q0
  have e1 := fLc_of (st := st) (ρ := [.val (.lst (bs.map bt)), .val (fr U), .val (fr q), .un, .un, .un]) (w := wItems (eVar 0)) (own := [5]) (g := gName 5) (t := tVal (eFrz (fCall (runFn T (k - 1)) 164 (aCons (eOp2S pIdxS (eVar 5) (eC (.int 0))) (aCons (eVar 2) (aNil)))))) (e := eVar 5) bt (fun b => decide (b.1 < q)) bt bs (by simp) (Nat.le_trans t.len (by decide))
    (fun b hb => ⟨[.val (.lst (bs.map bt)), .val (fr U), .val (fr q), .un, .un, .val (bt b)], rfl, by
      have e := lless_ok (T := T) (k := k - 1) (st := st) has.sub (by omega) (a := b.1) (b := q) ((t.fb b hb).mono (by omega)) (fq.mono (by decide))
      rw [tVal_ev, call2 (p := fr b.1) (p2 := fr q) (st := st) rfl rfl e]
      rfl, fun _ => rfl⟩)
  have w1 : b2_1 (runFn T (k - 1)) [.val (.lst (bs.map bt)), .val (fr U), .val (fr q), .un, .un, .un] st = .next [.val (.lst (bs.map bt)), .val (fr U), .val (fr q), .val (.lst ((below bs q).map bt)), .un, .un] st := by
    refine set_of (ρ := [.val (.lst (bs.map bt)), .val (fr U), .val (fr q), .un, .un, .un]) (u := 3) ?_
    rw [eFrz_ev, e1]
    rfl
  have tx : ∀ b ∈ below bs q, Txt b.2 := fun b hb => t.txt b (List.mem_filter.mp hb).1
  have pe := pEq_lst (as := below bs q) (bs := []) tx (fun b hb => nomatch hb)
  have w2 : b2_2 (runFn T (k - 1)) [.val (.lst (bs.map bt)), .val (fr U), .val (fr q), .val (.lst ((below bs q).map bt)), .un, .un] st = if below bs q = [] then .ret (.val .non) st else .next [.val (.lst (bs.map bt)), .val (fr U), .val (fr q), .val (.lst ((below bs q).map bt)), .un, .un] st := by
    have i1 : tVal (eOp2 pEq (eVar 3) (eFrz (fLst (aNil)))) [.val (.lst (bs.map bt)), .val (fr U), .val (fr q), .val (.lst ((below bs q).map bt)), .un, .un] st = .ok (decide (below bs q = [])) st := by
      show ((R.ofOpt (pEq (.lst ((below bs q).map bt)) (.lst (([] : List Beat).map bt))) st).bind tblK) = _
      rw [pe]
      rfl
    unfold b2_2
    rw [sIf_ev, i1, bindS_ok]
    by_cases h : below bs q = []
    · rw [decide_eq_true h, if_pos h]; rfl
    · rw [decide_eq_false h, if_neg h]; rfl
  have e2 := lsum_ok (T := T) (k := k - 1) (st := st) has.sub (by omega) (a := q) (b := q) (fq.mono (by decide)) (fq.mono (by decide))
  have f2 : Fit 401 (q + q) := fit_two fq fq (by decide)
  have fU : Fit 200 U := t.fp.mono hn
  have e3 := lsum_ok (T := T) (k := k - 1) (st := st) has.sub (by omega) (a := U) (b := q + q) (fU.mono (by decide)) (f2.mono (by decide))
  have f3 : Fit 700 (U + (q + q)) := (fit_add fU f2).mono (by decide)
  have fl := floor_mul (t := U) q0
  have f0 : 0 ≤ (U / q).floor := by
    rw [Rat.le_floor_iff, le_div_iff' q0]
    have : ((0 : Int) : Rat) = 0 := rfl
    rw [this, Rat.mul_zero]
    exact Rat.le_of_lt t.pos
  have c1 : ((U + (q + q)) / q).ceil ≤ (U / q).floor + 3 := by
    refine Rat.ceil_le_iff.mpr (Rat.not_lt.mp fun h => ?_)
    rw [Rat.lt_div_iff' q0] at h
    have : (((U / q).floor + 3 : Int) : Rat) = ((U / q).floor : Rat) + 3 := Rat.intCast_add _ 3
    rw [this] at h
    generalize ((U / q).floor : Rat) = z at fl h
    grind
  have c0 : 0 < ((U + (q + q)) / q).ceil := by
    rw [Rat.lt_ceil_iff, Rat.lt_div_iff' q0]
    have : ((0 : Int) : Rat) = 0 := rfl
    rw [this, Rat.mul_zero]
    have := t.pos
    grind
  have lb : (betw q (below bs q) U (U + (q + q))).length ≤ lim := by
    have h1 := betw_le (p := q) (s := U) (e := U + (q + q)) (bs := below bs q)
    have h2 : (below bs q).length ≤ 1000 := Nat.le_trans (List.length_filter_le _ _) t.len
    have h3 : (((U + (q + q)) / q).ceil - (U / q).floor).toNat ≤ 3 := by omega
    have := Nat.mul_le_mul h3 h2
    omega
  have e4 := lbetween_ok (T := T) (k := k - 1) (st := st) (id := 186) rfl has.sub (by omega) (bs := below bs q) (s := U) (e := U + (q + q)) q0 (fq.mono (by decide)) (fun b hb => (t.fb b (List.mem_filter.mp hb).1).mono (by omega)) (fU.mono (by decide)) (f3.mono (by decide)) (by omega) (by omega) lb
  have w3 : b2_3 (runFn T (k - 1)) [.val (.lst (bs.map bt)), .val (fr U), .val (fr q), .val (.lst ((below bs q).map bt)), .un, .un] st = .next [.val (.lst (bs.map bt)), .val (fr U), .val (fr q), .val (.lst ((below bs q).map bt)), .val (.lst ((betw q (below bs q) U (U + (q + q))).map bt)), .un] st := by
    refine set_of (ρ := [.val (.lst (bs.map bt)), .val (fr U), .val (fr q), .val (.lst ((below bs q).map bt)), .un, .un]) (u := 4) ?_
    refine callF (ag3 (p := lf (q, below bs q)) (p2 := fr U) (p3 := fr (U + (q + q))) rfl rfl ?_) e4 rfl
    exact call2 rfl (call2 rfl rfl e2) e3
  show BR.finish (b2_ (runFn T (k - 1)) [.val (.lst (bs.map bt)), .val (fr U), .val (fr q), .un, .un, .un] st) = _
  unfold b2_
  rw [sSeq_ev, w1, seq_next, sSeq_ev, w2]
  cases hx : nxt bs U q with
  | none =>
    have := ((nx_fold U q bs none).1 hx).2
    have e0 : below bs q = [] := List.filter_eq_nil_iff.mpr fun b hb => by
      rw [decide_eq_true_eq]
      exact this b hb
    rw [if_pos e0]
    rfl
  | some y =>
    have hd := nxt_head (E := U + (q + q)) q0 M (by grind) hx
    have e0 : ¬ below bs q = [] := fun e0 => by
      have m := List.mem_of_getElem? hd
      obtain ⟨_, b, _, _, hb, _⟩ := mem_betw m
      rw [e0] at hb
      exact nomatch hb
    rw [if_neg e0, seq_next, sSeq_ev, w3, seq_next]
    have w4 : b2_4 (runFn T (k - 1)) [.val (.lst (bs.map bt)), .val (fr U), .val (fr q), .val (.lst ((below bs q).map bt)), .val (.lst ((betw q (below bs q) U (U + (q + q))).map bt)), .un] st = .ret (.val (bt y)) st := by
      refine retV (p := bt y) ?_
      show R.ofOpt (L2.atI ((betw q (below bs q) U (U + (q + q))).map bt) 0) st = _
      have : L2.atI ((betw q (below bs q) U (U + (q + q))).map bt) 0 = some (bt y) := by
        cases hL : betw q (below bs q) U (U + (q + q)) with
        | nil => rw [hL] at hd; exact nomatch hd
        | cons z L =>
          rw [hL] at hd
          cases hd
          show ((L2.ixN ((y :: L).map bt).length 0).bind fun j => ((y :: L).map bt)[j]?) = _
          rw [List.map_cons]
          have : L2.ixN (bt y :: L.map bt).length 0 = some 0 := by simp [L2.ixN]
          rw [this]
          rfl
      rw [this]
      rfl
    rw [w4]
    rfl
theorem drawn_small (d : Drawn p bs) : p ≤ 8 := by
  obtain ⟨P, N, P0, P1, N0, N1, ep, _⟩ := d
  rw [ep, Rat.divInt_eq_div]
  have e := div_nat (p := (N : Rat)) (m := P) (by omega)
  have h1 := nat_ge1 (m := P) (by omega)
  have h8 : (N : Rat) ≤ ((8 : Nat) : Rat) := Rat.natCast_le_natCast.mpr N1
  have e8 : ((8 : Nat) : Rat) = 8 := rfl
  have hp : 0 < (N : Rat) / (P : Rat) := div_pos (nat_pos (by omega)) (by omega)
  have := Rat.mul_le_mul_of_nonneg_left h1 (Rat.le_of_lt hp)
  rw [e, Rat.mul_one] at this
  rw [e8] at h8
  exact Rat.le_trans this h8
/-- beats of a drawn rhythm ahead of a time are few and tame -/
theorem heard_tame (d : Drawn p bs) (u0 : 0 < U) (u1 : U ≤ 27) (fU : Fit 60 U) : Tame 130 U (betw (leastForm p bs).1 (leastForm p bs).2 0 U) ∧ 0 ≤ (U / (leastForm p bs).1).ceil ∧ (U / (leastForm p bs).1).ceil < 2 ^ 60 := by
  have nm := d.num
  have tl := d.tame.1.least
  generalize leastForm p bs = r at nm tl
  have pd := mul_den r.1
  obtain ⟨z, z0, ez⟩ := pos_nat tl.pos
  have z1 := nat_ge1 z0
  rw [ez] at pd
  have hN : U ≤ 0 + r.1 * ((27 * r.1.den : Nat) : Rat) := by
    rw [Rat.natCast_mul, Rat.zero_add]
    have e27 : ((27 : Nat) : Rat) = 27 := rfl
    rw [e27]
    grind
  have tn := turns_le (p := r.1) (s := 0) (e := U) (N := 27 * r.1.den) tl.pos hN
  have e0 : (0 : Rat) / r.1 = 0 := by rw [Rat.div_def, Rat.zero_mul]
  have f0 : ((0 : Rat) / r.1).floor = 0 := by rw [e0]; rfl
  have c0 : 0 ≤ (U / r.1).ceil := by
    have : 0 < (U / r.1).ceil := by
      rw [Rat.lt_ceil_iff, Rat.lt_div_iff' tl.pos]
      have : ((0 : Int) : Rat) = 0 := rfl
      rw [this, Rat.mul_zero]
      exact u0
    omega
  have fd := tl.fp.2
  rw [f0] at tn
  refine ⟨⟨u0, betw_asc tl.mach, fun b hb => ?_, fU.mono (by decide), fun b hb => ?_, ?_⟩, c0, ?_⟩
  · obtain ⟨t, c, _, _, hc, ex, h1, h2⟩ := mem_betw hb
    refine ⟨Rat.not_lt.mp h1, h2, ?_⟩
    rw [ex]
    exact (tl.inn c hc).2.2
  · obtain ⟨t, c, h1, h2, hc, ex, _, _⟩ := mem_betw hb
    rw [f0] at h1 h2
    have ft : Fit 60 (t : Rat) := by
      refine fit_int ?_ (by decide)
      have : 27 * r.1.den + 1 < 2 ^ 60 := by
        have : r.1.den < 2 ^ 20 := fd
        omega
      omega
    rw [ex]
    exact (fit_add (fit_mul tl.fp ft) (tl.fb c hc)).mono (by decide)
  · have h1 := betw_le (p := r.1) (s := 0) (e := U) (bs := r.2)
    rw [f0] at h1
    have h2 := Nat.mul_le_mul_right r.2.length tn
    have h3 : r.2.length ≤ r.1.den * r.2.length := Nat.le_mul_of_pos_left _ r.1.den_pos
    rw [Nat.add_mul, Nat.one_mul, Nat.mul_assoc] at h2
    omega
  · have : r.1.den < 2 ^ 20 := fd
    omega
theorem Tame.sub {n : Nat} {cs : List Beat} (t : Tame n U bs) (h : cs.Sublist bs) : Tame n U cs := ⟨t.pos, t.asc.sublist h, fun b hb => t.inn b (h.subset hb), t.fp, fun b hb => t.fb b (h.subset hb), Nat.le_trans h.length_le t.len⟩
end
end K10
set_option Elab.async false
set_option linter.all false
set_option maxRecDepth 100000
set_option maxHeartbeats 4000000
set_option exponentiation.threshold 10000
namespace K10
open PySem BR MX BP
section
variable {s0 s1 s2 c3 c4 c5 c6 c7 c8 c9 c10 c11 c12 c13 c14 : SV} {o : SO} {p q U : Rat} {as bs cs : List Beat} {ns : List Int} {k n : Nat} {st : Store}
theorem t1 (ho : RowOk ns o) : ∃ p bs o', b0_2b1 (runFn T 69) [s0, .val (.ref 0), s2, c3, c4, c5, c6, c7, c8, c9, c10, c11, c12, c13, c14] [o] = .next [s0, .val (.ref 0), s2, c3, c4, c5, c6, c7, c8, c9, c10, .val (fr p), .val (.tup (bs.map bt)), c13, c14] [o'] ∧ RowOk ns o' ∧ Drawn p bs := by
  obtain ⟨p, bs, o', e, h1, h2⟩ := lrhythm_ok (T := T) (k := 69) (has.sub) (by decide) (rest := []) ho
  refine ⟨p, bs, o', ?_, h1, h2⟩
  unfold b0_2b1
  simp [e]
theorem add1 {ρ : BR.Env} {m : EM} {st st1 : Store} {v : Int} (h : m ρ st = .ok (.int v) st1) : eOp2 pAdd (eC (.int 1)) m ρ st = .ok (.int (1 + v)) st1 := by
  rw [eOp2_ev, eC_ev, bind_ok, kOp2_ev, h]
  rfl
theorem t2 (ho : RowOk ns o) (d : Drawn p bs) : ∃ U o', b0_2b2 (runFn T 69) [s0, .val (.ref 0), s2, c3, c4, c5, c6, c7, c8, c9, c10, .val (fr p), .val (.tup (bs.map bt)), c13, c14] [o] = .next [s0, .val (.ref 0), s2, c3, .val (fr U), c5, c6, c7, c8, c9, c10, .val (fr p), .val (.tup (bs.map bt)), c13, c14] [o'] ∧ RowOk ns o' ∧ 0 < U ∧ U ≤ 27 ∧ Fit 60 U := by
  obtain ⟨v, o1, e1, v0, v1, h1⟩ := ltaken_ok (T := T) (k := 69) (id := 183) rfl (by decide) (rest := []) (m := 3) ho
  obtain ⟨w, o2, e2, w0, w1, h2⟩ := ltaken_ok (T := T) (k := 69) (id := 183) rfl (by decide) (rest := []) (m := 5) h1
  have tm := d.tame.1
  have p8 := drawn_small d
  have fv : Fit 10 ((1 + v : Int) : Rat) := fit_int (by omega) (by decide)
  have e3 := ltimes_ok (T := T) (k := 69) (st := [o1]) has.sub (by decide) (a := p) (b := ((1 + v : Int) : Rat)) (tm.fp.mono (by decide)) (fv.mono (by decide))
  rw [← fr_int] at e3
  have e4 := lfrac_ok (T := T) (k := 69) (st := [o2]) has.sub (by decide) (n := 1 + w) (p := 2) (by omega) (Nat.lt_of_lt_of_le (show _ < 2 ^ 3 from by decide) (Nat.pow_le_pow_right (by decide) (by decide)))
  have f4 : Fit 10 (Rat.divInt (1 + w) 2) := fit_div (by omega) (by decide) (by decide)
  have f3 := fit_mul tm.fp fv
  have e5 := lsum_ok (T := T) (k := 69) (st := [o2]) has.sub (by decide) (a := p * ((1 + v : Int) : Rat)) (b := Rat.divInt (1 + w) 2) (f3.mono (by decide)) (f4.mono (by decide))
  have i1 : eOp2 pAdd (eC (.int 1)) (eFrz (fCall (runFn T 69) 183 (aCons (eVar 1) (aCons (eC (.int 3)) (aNil))))) [s0, .val (.ref 0), s2, c3, c4, c5, c6, c7, c8, c9, c10, .val (fr p), .val (.tup (bs.map bt)), c13, c14] [o] = .ok (.int (1 + v)) [o1] := add1 (call2 rfl rfl e1)
  have i2 : eTup (aCons (eOp2 pAdd (eC (.int 1)) (eFrz (fCall (runFn T 69) 183 (aCons (eVar 1) (aCons (eC (.int 3)) (aNil)))))) (aCons (eC (.int 1)) (aNil))) [s0, .val (.ref 0), s2, c3, c4, c5, c6, c7, c8, c9, c10, .val (fr p), .val (.tup (bs.map bt)), c13, c14] [o] = .ok (.tup [.int (1 + v), .int 1]) [o1] := by
    rw [eTup_ev, ag2 i1 rfl]
    rfl
  have i3 : eFrz (fCall (runFn T 69) 163 (aCons (eVar 11) (aCons (eTup (aCons (eOp2 pAdd (eC (.int 1)) (eFrz (fCall (runFn T 69) 183 (aCons (eVar 1) (aCons (eC (.int 3)) (aNil)))))) (aCons (eC (.int 1)) (aNil)))) (aNil)))) [s0, .val (.ref 0), s2, c3, c4, c5, c6, c7, c8, c9, c10, .val (fr p), .val (.tup (bs.map bt)), c13, c14] [o] = .ok (fr (p * ((1 + v : Int) : Rat))) [o1] := call2 rfl i2 e3
  have i4 : eOp2 pAdd (eC (.int 1)) (eFrz (fCall (runFn T 69) 183 (aCons (eVar 1) (aCons (eC (.int 5)) (aNil))))) [s0, .val (.ref 0), s2, c3, c4, c5, c6, c7, c8, c9, c10, .val (fr p), .val (.tup (bs.map bt)), c13, c14] [o1] = .ok (.int (1 + w)) [o2] := add1 (call2 rfl rfl e2)
  have i5 : eFrz (fCall (runFn T 69) 161 (aCons (eOp2 pAdd (eC (.int 1)) (eFrz (fCall (runFn T 69) 183 (aCons (eVar 1) (aCons (eC (.int 5)) (aNil)))))) (aCons (eC (.int 2)) (aNil)))) [s0, .val (.ref 0), s2, c3, c4, c5, c6, c7, c8, c9, c10, .val (fr p), .val (.tup (bs.map bt)), c13, c14] [o1] = .ok (fr (Rat.divInt (1 + w) 2)) [o2] := callF (ag2 i4 rfl) e4 rfl
  have hw : Rat.divInt (1 + w) 2 = ((1 + w : Int) : Rat) / ((2 : Nat) : Rat) := Rat.divInt_eq_div _ _
  have w5 : ((1 + w : Int) : Rat) ≤ ((5 : Int) : Rat) := Rat.intCast_le_intCast.mpr (by omega)
  have w6 : ((1 : Int) : Rat) ≤ ((1 + w : Int) : Rat) := Rat.intCast_le_intCast.mpr (by omega)
  have v5 : ((1 + v : Int) : Rat) ≤ ((3 : Int) : Rat) := Rat.intCast_le_intCast.mpr (by omega)
  have v6 : ((1 : Int) : Rat) ≤ ((1 + v : Int) : Rat) := Rat.intCast_le_intCast.mpr (by omega)
  have dn := div_nat (p := ((1 + w : Int) : Rat)) (m := 2) (by decide)
  rw [← hw] at dn
  have two : ((2 : Nat) : Rat) = 2 := rfl
  have one : ((1 : Int) : Rat) = 1 := rfl
  have three : ((3 : Int) : Rat) = 3 := rfl
  have five : ((5 : Int) : Rat) = 5 := rfl
  rw [two] at dn
  rw [one] at w6 v6
  rw [three] at v5
  rw [five] at w5
  have m1 := Rat.mul_le_mul_of_nonneg_left v5 (Rat.le_of_lt tm.pos)
  have m2 := Rat.mul_le_mul_of_nonneg_left v6 (Rat.le_of_lt tm.pos)
  have pp := tm.pos
  refine ⟨p * ((1 + v : Int) : Rat) + Rat.divInt (1 + w) 2, o2, set_of (ρ := [s0, .val (.ref 0), s2, c3, c4, c5, c6, c7, c8, c9, c10, .val (fr p), .val (.tup (bs.map bt)), c13, c14]) (u := 4) (callF (ag2 i3 i5) e5 rfl), h2, ?_, ?_, (fit_add f3 f4).mono (by decide)⟩
  · generalize ((1 + v : Int) : Rat) = V at *
    generalize ((1 + w : Int) : Rat) = W at *
    generalize Rat.divInt (1 + w) 2 = D at *
    grind
  · generalize ((1 + v : Int) : Rat) = V at *
    generalize ((1 + w : Int) : Rat) = W at *
    generalize Rat.divInt (1 + w) 2 = D at *
    grind
theorem t3 (d : Drawn p bs) (u0 : 0 < U) (u1 : U ≤ 27) (fU : Fit 60 U) : b0_2b3 (runFn T 69) [s0, .val (.ref 0), s2, c3, .val (fr U), c5, c6, c7, c8, c9, c10, .val (fr p), .val (.tup (bs.map bt)), c13, c14] [o] = .next [s0, .val (.ref 0), s2, c3, .val (fr U), .own ((betw (leastForm p bs).1 (leastForm p bs).2 0 U).map bt), c6, c7, c8, c9, c10, .val (fr p), .val (.tup (bs.map bt)), c13, c14] [o] := by
  have tm := d.tame.1
  have tl := tm.least
  have ht := heard_tame d u0 u1 fU
  have e2 := lleast_ok (T := T) (k := 69) (st := [o]) (id := 185) rfl has.sub (by decide) (beats_tup bs) tm.apart (tm.fp.mono (by decide)) (fun b hb => ⟨(tm.fb b hb).mono (by decide), tm.txt b hb⟩) (Nat.le_trans tm.len (by decide))
  rw [lawLeast_ok tm.mach] at e2
  generalize leastForm p bs = r at *
  have e0 : (0 : Rat) / r.1 = 0 := by rw [Rat.div_def, Rat.zero_mul]
  have f0 : ((0 : Rat) / r.1).floor = 0 := by rw [e0]; rfl
  have e3 := lbetween_ok (T := T) (k := 69) (st := [o]) (id := 186) rfl has.sub (by decide) (p := r.1) (s := 0) (e := U) (bs := r.2) tl.pos (tl.fp.mono (by decide)) (fun b hb => (tl.fb b hb).mono (by decide)) (fit_zero (by decide)) (fU.mono (by decide)) (by rw [f0]; decide) (by omega) (Nat.le_trans ht.1.len (by decide))
  have i1 : eFrz (fCall (runFn T 69) 185 (aCons (eVar 11) (aCons (eVar 12) (aNil)))) [s0, .val (.ref 0), s2, c3, .val (fr U), c5, c6, c7, c8, c9, c10, .val (fr p), .val (.tup (bs.map bt)), c13, c14] [o] = .ok (lf r) [o] := call2 rfl rfl e2
  unfold b0_2b3
  rw [sSet_ev, fCall_ev, ag3 (p2 := fr 0) (p3 := fr U) i1 rfl rfl, bind_ok, show lf r = lf (r.1, r.2) from rfl, e3]
  rfl
theorem erase_map {α β : Type} (f : α → β) : ∀ (l : List α) (i : Nat), (l.map f).eraseIdx i = (l.eraseIdx i).map f
  | [], _ => rfl
  | _ :: _, 0 => rfl
  | x :: l, i + 1 => by
    show f x :: (l.map f).eraseIdx i = f x :: (l.eraseIdx i).map f
    rw [erase_map f l i]
theorem t4 (ho : RowOk ns o) {L : List Beat} (hl : L.length ≤ 1000) : ∃ (cs : List Beat) (o' : SO), b0_2b4 (runFn T 69) [s0, .val (.ref 0), s2, c3, .val (fr U), .own (L.map bt), c6, c7, c8, c9, c10, .val (fr p), .val (.tup (bs.map bt)), c13, c14] [o] = .next [s0, .val (.ref 0), s2, c3, .val (fr U), .own (cs.map bt), c6, c7, c8, c9, c10, .val (fr p), .val (.tup (bs.map bt)), c13, c14] [o'] ∧ RowOk ns o' ∧ cs.Sublist L := by
  have g1 : ∀ st, eLenOwn 5 [s0, .val (.ref 0), s2, c3, .val (fr U), .own (L.map bt), c6, c7, c8, c9, c10, .val (fr p), .val (.tup (bs.map bt)), c13, c14] st = .ok (.int (L.length : Int)) st := fun st => by
    show R.ok (PV.int ((L.map bt).length : Int)) st = _
    rw [List.length_map]
  have g2 : tVal (eOp2 pGt (eLenOwn 5) (eC (.int 0))) [s0, .val (.ref 0), s2, c3, .val (fr U), .own (L.map bt), c6, c7, c8, c9, c10, .val (fr p), .val (.tup (bs.map bt)), c13, c14] [o] = .ok (decide (0 < (L.length : Int))) [o] := by
    rw [tVal_ev, eOp2_ev, g1]
    rfl
  unfold b0_2b4
  rw [sIf_ev, tAnd_ev, g2, bind_ok]
  by_cases h0 : 0 < (L.length : Int)
  · obtain ⟨v, o1, e1, v0, v1, h1⟩ := ltaken_ok (T := T) (k := 69) (id := 183) rfl (by decide) (rest := []) (m := 3) ho
    have i1 : tVal (eOp2 pEq (eFrz (fCall (runFn T 69) 183 (aCons (eVar 1) (aCons (eC (.int 3)) (aNil))))) (eC (.int 0))) [s0, .val (.ref 0), s2, c3, .val (fr U), .own (L.map bt), c6, c7, c8, c9, c10, .val (fr p), .val (.tup (bs.map bt)), c13, c14] [o] = .ok (decide (v = 0)) [o1] := by
      rw [tVal_ev, eOp2_ev, call2 (p := .ref 0) (p2 := .int 3) (st := [o]) rfl rfl e1]
      rfl
    rw [decide_eq_true h0, kAnd_t, i1, bindS_ok]
    by_cases hv : v = 0
    · obtain ⟨w, o2, e2, w0, w1, h2⟩ := ltaken_ok (T := T) (k := 69) (id := 183) rfl (by decide) (rest := []) (m := (L.length : Int)) h1 h0 (by omega)
      refine ⟨L.eraseIdx w.toNat, o2, ?_, h2, List.eraseIdx_sublist _ _⟩
      have i2 : eFrz (fCall (runFn T 69) 183 (aCons (eVar 1) (aCons (eLenOwn 5) (aNil)))) [s0, .val (.ref 0), s2, c3, .val (fr U), .own (L.map bt), c6, c7, c8, c9, c10, .val (fr p), .val (.tup (bs.map bt)), c13, c14] [o1] = .ok (.int w) [o2] := call2 rfl (g1 _) e2
      rw [decide_eq_true hv, kIfS_t]
      show R.bindS _ _ _ = _
      rw [i2, bindS_ok]
      unfold popQ
      simp only
      have hlim : lim = 1000000 := rfl
      rw [if_pos ⟨w0, by rw [List.length_map]; exact w1, by rw [List.length_map]; omega⟩, erase_map]
      rfl
    · rw [decide_eq_false hv]
      exact ⟨L, o1, rfl, h1, .refl _⟩
  · rw [decide_eq_false h0]
    exact ⟨L, o, rfl, ho, .refl _⟩
theorem t5 (ho : RowOk ns o) : ∃ q o', b0_2b5 (runFn T 69) [s0, .val (.ref 0), s2, c3, .val (fr U), .own (cs.map bt), c6, c7, c8, c9, c10, .val (fr p), .val (.tup (bs.map bt)), c13, c14] [o] = .next [s0, .val (.ref 0), s2, c3, .val (fr U), .own (cs.map bt), .val (fr q), c7, c8, c9, c10, .val (fr p), .val (.tup (bs.map bt)), c13, c14] [o'] ∧ RowOk ns o' ∧ 0 < q ∧ 1 ≤ q * 4 ∧ Fit 10 q := by
  obtain ⟨v, o1, e1, v0, v1, h1⟩ := ltaken_ok (T := T) (k := 69) (id := 183) rfl (by decide) (rest := []) (m := 3) ho
  obtain ⟨w, o2, e2, w0, w1, h2⟩ := ltaken_ok (T := T) (k := 69) (id := 183) rfl (by decide) (rest := []) (m := 4) h1
  have e3 := lfrac_ok (T := T) (k := 69) (st := [o2]) has.sub (by decide) (n := 1 + v) (p := 1 + w) (by omega) (Nat.lt_of_lt_of_le (show _ < 2 ^ 3 from by omega) (Nat.pow_le_pow_right (by decide) (by decide)))
  have i1 : eOp2 pAdd (eC (.int 1)) (eFrz (fCall (runFn T 69) 183 (aCons (eVar 1) (aCons (eC (.int 3)) (aNil))))) [s0, .val (.ref 0), s2, c3, .val (fr U), .own (cs.map bt), c6, c7, c8, c9, c10, .val (fr p), .val (.tup (bs.map bt)), c13, c14] [o] = .ok (.int (1 + v)) [o1] := add1 (call2 rfl rfl e1)
  have i2 : eOp2 pAdd (eC (.int 1)) (eFrz (fCall (runFn T 69) 183 (aCons (eVar 1) (aCons (eC (.int 4)) (aNil))))) [s0, .val (.ref 0), s2, c3, .val (fr U), .own (cs.map bt), c6, c7, c8, c9, c10, .val (fr p), .val (.tup (bs.map bt)), c13, c14] [o1] = .ok (.int (1 + w)) [o2] := add1 (call2 rfl rfl e2)
  obtain ⟨W, eW⟩ : ∃ W : Nat, 1 + w = (W : Int) := ⟨(1 + w).toNat, by omega⟩
  have hW : 0 < W := by omega
  have q0 : 0 < Rat.divInt (1 + v) (1 + w) := by rw [eW]; exact (divInt_pos hW).mpr (by omega)
  refine ⟨Rat.divInt (1 + v) (1 + w), o2, set_of (ρ := [s0, .val (.ref 0), s2, c3, .val (fr U), .own (cs.map bt), c6, c7, c8, c9, c10, .val (fr p), .val (.tup (bs.map bt)), c13, c14]) (u := 6) (callF (ag2 i1 i2) e3 rfl), h2, q0, ?_, fit_div (by omega) (by omega) (by omega)⟩
  have e : Rat.divInt (1 + v) (1 + w) * (W : Rat) = ((1 + v : Int) : Rat) := by
    rw [eW, Rat.divInt_eq_div]
    exact div_nat hW
  have a1 : ((1 : Int) : Rat) ≤ ((1 + v : Int) : Rat) := Rat.intCast_le_intCast.mpr (by omega)
  have one : ((1 : Int) : Rat) = 1 := rfl
  have h4 : (W : Rat) ≤ ((4 : Nat) : Rat) := Rat.natCast_le_natCast.mpr (by omega)
  have e4 : ((4 : Nat) : Rat) = 4 := rfl
  have := Rat.mul_le_mul_of_nonneg_left h4 (Rat.le_of_lt q0)
  rw [e, e4] at this
  rw [one] at a1
  exact Rat.le_trans a1 this
theorem t67 : (sSeq (b0_2b6 (runFn T 69)) (b0_2b7 (runFn T 69))) [s0, .val (.ref 0), s2, c3, .val (fr U), .own (cs.map bt), .val (fr q), c7, c8, c9, c10, .val (fr p), .val (.tup (bs.map bt)), c13, c14] [o] = .next [s0, .val (.ref 0), s2, c3, .val (fr U), .val (.lst (cs.map bt)), .val (fr q), c7, c8, c9, c10, .val (fr p), .val (.tup (bs.map bt)), .own [], .val (.int 1)] [o] := rfl
theorem due_loop (t : Tame 130 U cs) (fq : Fit 10 q) (q0 : 0 < q) (hN : (U / q).floor < 2 ^ 19) :
    ∀ (N : Nat) (m : Int) (acc : List Rat) (n : Nat), N < n → ((U / q).floor + 1 - m).toNat = N → 1 ≤ m → m ≤ (U / q).floor + 1 → acc.length + N ≤ lim →
    ∃ c14', whileGo (tNot (tVal (eFrz (fCall (runFn T 69) 164 (aCons (eVar 4) (aCons (eFrz (fCall (runFn T 69) 163 (aCons (eVar 6) (aCons (eTup (aCons (eVar 14) (aCons (eC (.int 1)) (aNil)))) (aNil))))) (aNil))))))) (b0_2b8b (runFn T 69)) n [s0, .val (.ref 0), s2, c3, .val (fr U), .val (.lst (cs.map bt)), .val (fr q), c7, c8, c9, c10, .val (fr p), .val (.tup (bs.map bt)), .own (acc.map fr), .val (.int m)] [o] =
      .next [s0, .val (.ref 0), s2, c3, .val (fr U), .val (.lst (cs.map bt)), .val (fr q), c7, c8, c9, c10, .val (fr p), .val (.tup (bs.map bt)), .own ((acc ++ (((nums m N).filter fun m : Int => mayB cs U (q * (m : Rat))).map fun m : Int => q * (m : Rat))).map fr), c14'] [o]
  | N, m, acc, 0, hn, _, _, _, _ => absurd hn (Nat.not_lt_zero _)
  | N, m, acc, n + 1, hn, hN', h1, hm, hl => by
    have fU := t.fp
    have fm : Fit 20 ((m : Int) : Rat) := fit_int (by omega) (by decide)
    have e6 := ltimes_ok (k := 69) (st := [o]) (T := T) has.sub (by decide) (a := q) (b := (m : Rat)) (fq.mono (by decide)) (fm.mono (by decide))
    rw [← fr_int] at e6
    have fqm := fit_mul fq fm
    have e7 := lless_ok (k := 69) (st := [o]) (T := T) has.sub (by decide) (a := U) (b := q * (m : Rat)) (fU.mono (by decide)) (fqm.mono (by decide))
    have i6 : eFrz (fCall (runFn T 69) 163 (aCons (eVar 6) (aCons (eTup (aCons (eVar 14) (aCons (eC (.int 1)) (aNil)))) (aNil)))) [s0, .val (.ref 0), s2, c3, .val (fr U), .val (.lst (cs.map bt)), .val (fr q), c7, c8, c9, c10, .val (fr p), .val (.tup (bs.map bt)), .own (acc.map fr), .val (.int m)] [o] = .ok (fr (q * (m : Rat))) [o] := call2 rfl rfl e6
    have ec : tNot (tVal (eFrz (fCall (runFn T 69) 164 (aCons (eVar 4) (aCons (eFrz (fCall (runFn T 69) 163 (aCons (eVar 6) (aCons (eTup (aCons (eVar 14) (aCons (eC (.int 1)) (aNil)))) (aNil))))) (aNil)))))) [s0, .val (.ref 0), s2, c3, .val (fr U), .val (.lst (cs.map bt)), .val (fr q), c7, c8, c9, c10, .val (fr p), .val (.tup (bs.map bt)), .own (acc.map fr), .val (.int m)] [o] = .ok (!decide (U < q * (m : Rat))) [o] := by
      rw [tNot_ev, tVal_ev, call2 (p := fr U) rfl i6 e7]
      rfl
    have hlt : U < q * (m : Rat) ↔ (U / q).floor < m := by
      rw [Rat.floor_lt_iff, Rat.div_lt_iff' q0]
    rw [whileGo_succ, ec, bindS_ok]
    cases N with
    | zero =>
      have : U < q * (m : Rat) := by rw [hlt]; omega
      rw [decide_eq_true this]
      refine ⟨.val (.int m), ?_⟩
      have : nums m 0 = [] := rfl
      rw [this, List.filter_nil, List.map_nil, List.append_nil]
      rfl
    | succ N =>
      have : ¬ U < q * (m : Rat) := by rw [hlt]; omega
      have en : nums m (N + 1) = m :: nums (m + 1) N := by
        unfold nums
        rw [List.range_succ_eq_map, List.map_cons, List.map_map]
        congr 1
        · simp
        · apply List.map_congr_left
          intro a _
          simp only [Function.comp_apply]
          omega
      rw [decide_eq_false this, Bool.not_false, if_pos rfl]
      have em := lmay_ok (k := 69) (st := [o]) (by decide) t.asc (Nat.le_trans t.len (by decide)) (fun b hb => ⟨(t.fb b hb).mono (by decide), t.txt b hb⟩) (U := U) (q := q * (m : Rat)) (fU.mono (by decide)) (fqm.mono (by decide))
      have ta : tVal (eFrz (fCall (runFn T 69) 1 (aCons (eVar 5) (aCons (eVar 4) (aCons (eFrz (fCall (runFn T 69) 163 (aCons (eVar 6) (aCons (eTup (aCons (eVar 14) (aCons (eC (.int 1)) (aNil)))) (aNil))))) (aNil)))))) [s0, .val (.ref 0), s2, c3, .val (fr U), .val (.lst (cs.map bt)), .val (fr q), c7, c8, c9, c10, .val (fr p), .val (.tup (bs.map bt)), .own (acc.map fr), .val (.int m)] [o] = .ok (mayB cs U (q * (m : Rat))) [o] := by
        rw [tVal_ev, callF (ag3 (p := .lst (cs.map bt)) (p2 := fr U) rfl rfl i6) em rfl]
        rfl
      have w1 : b0_2b8b1 (runFn T 69) [s0, .val (.ref 0), s2, c3, .val (fr U), .val (.lst (cs.map bt)), .val (fr q), c7, c8, c9, c10, .val (fr p), .val (.tup (bs.map bt)), .own (acc.map fr), .val (.int m)] [o] = .next [s0, .val (.ref 0), s2, c3, .val (fr U), .val (.lst (cs.map bt)), .val (fr q), c7, c8, c9, c10, .val (fr p), .val (.tup (bs.map bt)), .own ((acc ++ if mayB cs U (q * (m : Rat)) then [q * (m : Rat)] else []).map fr), .val (.int m)] [o] := by
        unfold b0_2b8b1
        rw [sIf_ev, ta, bindS_ok]
        cases mayB cs U (q * (m : Rat)) with
        | false =>
          rw [kIfS_f, sNil_ev, if_neg Bool.false_ne_true, List.append_nil]
        | true =>
          rw [kIfS_t, if_pos rfl, List.map_append]
          have ka := kApp_ev (ρ := [s0, .val (.ref 0), s2, c3, .val (fr U), .val (.lst (cs.map bt)), .val (fr q), c7, c8, c9, c10, .val (fr p), .val (.tup (bs.map bt)), .own (acc.map fr), .val (.int m)]) (st := [o]) (i := 13) (p := fr (q * (m : Rat))) (show (acc.map fr).length < lim by rw [List.length_map]; omega)
          generalize acc.map fr = LL at ka i6 ⊢
          rw [sApp_ev]
          show R.bindS _ _ _ = _
          rw [i6, bindS_ok]
          exact ka
      have w2 : ∀ L, b0_2b8b2 (runFn T 69) [s0, .val (.ref 0), s2, c3, .val (fr U), .val (.lst (cs.map bt)), .val (fr q), c7, c8, c9, c10, .val (fr p), .val (.tup (bs.map bt)), .own L, .val (.int m)] [o] = .next [s0, .val (.ref 0), s2, c3, .val (fr U), .val (.lst (cs.map bt)), .val (fr q), c7, c8, c9, c10, .val (fr p), .val (.tup (bs.map bt)), .own L, .val (.int (m + 1))] [o] := fun L => rfl
      have hb : b0_2b8b (runFn T 69) [s0, .val (.ref 0), s2, c3, .val (fr U), .val (.lst (cs.map bt)), .val (fr q), c7, c8, c9, c10, .val (fr p), .val (.tup (bs.map bt)), .own (acc.map fr), .val (.int m)] [o] = .next [s0, .val (.ref 0), s2, c3, .val (fr U), .val (.lst (cs.map bt)), .val (fr q), c7, c8, c9, c10, .val (fr p), .val (.tup (bs.map bt)), .own ((acc ++ if mayB cs U (q * (m : Rat)) then [q * (m : Rat)] else []).map fr), .val (.int (m + 1))] [o] := by
        unfold b0_2b8b
        rw [sSeq_ev, w1, seq_next, w2]
      rw [hb, loop_next]
      obtain ⟨c14', e3⟩ := due_loop t fq q0 hN N (m + 1) (acc ++ if mayB cs U (q * (m : Rat)) then [q * (m : Rat)] else []) n (by omega) (by omega) (by omega) (by omega) (by
        rw [List.length_append]
        split
        · rw [List.length_singleton]; omega
        · rw [List.length_nil]; omega)
      refine ⟨c14', ?_⟩
      rw [e3, en, List.filter_cons, List.append_assoc]
      congr 6
      split <;> rfl
theorem t8 (t : Tame 130 U cs) (fq : Fit 10 q) (q0 : 0 < q) (hN : (U / q).floor < 2 ^ 19) : ∃ c14', b0_2b8 (runFn T 69) [s0, .val (.ref 0), s2, c3, .val (fr U), .val (.lst (cs.map bt)), .val (fr q), c7, c8, c9, c10, .val (fr p), .val (.tup (bs.map bt)), .own [], .val (.int 1)] [o] = .next [s0, .val (.ref 0), s2, c3, .val (fr U), .val (.lst (cs.map bt)), .val (fr q), c7, c8, c9, c10, .val (fr p), .val (.tup (bs.map bt)), .own ((rnds cs U q).map fr), c14'] [o] := by
  have hlim : lim = 1000000 := rfl
  have f0 : 0 ≤ (U / q).floor := by
    rw [Rat.le_floor_iff, le_div_iff' q0]
    have : ((0 : Int) : Rat) = 0 := rfl
    rw [this, Rat.mul_zero]
    exact Rat.le_of_lt t.pos
  obtain ⟨c14', e⟩ := due_loop (s0 := s0) (s2 := s2) (c3 := c3) (c7 := c7) (c8 := c8) (c9 := c9) (c10 := c10) (p := p) (bs := bs) (o := o) t fq q0 hN (U / q).floor.toNat 1 [] fuel (Nat.lt_of_lt_of_le (show _ < 2 ^ 64 from by omega) (Nat.le_trans (by decide +kernel) fuel_ge)) (by omega) (by decide) (by omega) (by rw [List.length_nil]; omega)
  exact ⟨c14', e⟩
theorem plains_frs (m : Nat) : ∀ ts : List Rat, plains (m + 1) (ts.map fr) = true
  | [] => by unfold plains; rfl
  | t :: ts => by
    rw [List.map_cons]
    unfold plains
    rw [plains_frs m ts]
    rfl
theorem eqvs_frs : ∀ ts : List Rat, eqvs (ts.map fr) (ts.map fr) = true
  | [] => rfl
  | t :: ts => by
    rw [List.map_cons]
    show (eqv (fr t) (fr t) && eqvs (ts.map fr) (ts.map fr)) = true
    rw [eqv_fr, decide_eq_true rfl, eqvs_frs ts]
    rfl
theorem ne_frs (ts : List Rat) : pNe (.lst (ts.map fr)) (.lst (ts.map fr)) = some (.bl false) := by
  have h : plain 8 (.lst (ts.map fr)) = true := plains_frs 6 ts
  rw [pNe_of h h]
  have e : eqv (.lst (ts.map fr)) (.lst (ts.map fr)) = true := eqvs_frs ts
  rw [e]
  rfl
theorem ne_obt {b : Option Beat} (h : ∀ x, b = some x → Txt x.2) : pNe (obt b) (obt b) = some (.bl false) := by
  cases b with
  | none => rfl
  | some x =>
    have tx : Txts [x] := fun y hy => by rw [List.mem_singleton.mp hy]; exact h x rfl
    have p1 := plain_lst 6 tx
    have p2 : plain 8 (bt x) = true := by
      have : (plain 8 (bt x) && true) = true := p1
      rwa [Bool.and_true] at this
    have e1 := eqvs_bt [x] [x]
    rw [decide_eq_true rfl] at e1
    have e2 : eqv (bt x) (bt x) = true := by
      have : (eqv (bt x) (bt x) && true) = true := e1
      rwa [Bool.and_true] at this
    show pNe (bt x) (bt x) = _
    rw [pNe_of p2 p2, e2]
    rfl
theorem didx_r (f : Rat → PV) {x : Rat} : ∀ {R : List Rat}, x ∈ R → pDIdx (.dct (R.map fr) (R.map f)) (fr x) = some (f x) := by
  intro R hx
  show (if kok (fr x) then dGet (fr x) (R.map fr) (R.map f) else none) = _
  rw [kok_fr, if_pos rfl]
  induction R with
  | nil => cases hx
  | cons c R ih =>
    rw [List.map_cons, List.map_cons]
    unfold dGet
    rw [eqv_fr]
    by_cases e : c = x
    · rw [e, decide_eq_true rfl, if_pos rfl]
    · rw [decide_eq_false e, if_neg Bool.false_ne_true]
      refine ih ?_
      rcases List.mem_cons.mp hx with q | q
      · exact absurd q.symm e
      · exact q
theorem t10 (t : Tame 130 U cs) (fq : Fit 10 q) (q0 : 0 < q) (hN : (U / q).floor < 2 ^ 19) : b0_2b10 (runFn T 69) [s0, .val (.ref 0), s2, c3, .val (fr U), .val (.lst (cs.map bt)), .val (fr q), c7, c8, c9, c10, .val (fr p), .val (.tup (bs.map bt)), .val (.lst ((rnds cs U q).map fr)), c14] [o] = .next [s0, .val (.ref 0), s2, c3, .val (fr U), .val (.lst (cs.map bt)), .val (fr q), c7, c8, c9, c10, .val (fr p), .val (.tup (bs.map bt)), .val (.lst ((rnds cs U q).map fr)), c14] [o] := by
  have hb : ∀ b ∈ cs, Fit 900 b.1 ∧ Txt b.2 := fun b hb => ⟨(t.fb b hb).mono (by decide), t.txt b hb⟩
  have e1 := rounds_ok (T := T) (k := 69) (st := [o]) has.sub (by decide) (heard_lst has.sub (t.bok (by decide))) t.apart hb (U := U) (q := q) (t.fp.mono (by decide)) (fq.mono (by decide)) t.pos q0 t.ok hN
  have e2 := rounds_ok (T := T) (k := 69) (st := [o]) has.sub (by decide) (heard_tup has.sub (t.bok (by decide))) t.apart hb (U := U) (q := q) (t.fp.mono (by decide)) (fq.mono (by decide)) t.pos q0 t.ok hN
  have ne := ne_frs (rnds cs U q)
  generalize rnds cs U q = Rr at *
  have i1 : tVal (eOp2 pNe (eFrz (fCall (runFn T 69) 138 (aCons (eVar 5) (aCons (eVar 4) (aCons (eVar 6) (aNil)))))) (eVar 13)) [s0, .val (.ref 0), s2, c3, .val (fr U), .val (.lst (cs.map bt)), .val (fr q), c7, c8, c9, c10, .val (fr p), .val (.tup (bs.map bt)), .val (.lst (Rr.map fr)), c14] [o] = .ok false [o] := by
    rw [tVal_ev, eOp2_ev, callF (q := .lst (Rr.map fr)) (ag3 (p := .lst (cs.map bt)) (p2 := fr U) (p3 := fr q) rfl rfl rfl) e1 rfl]
    show R.bind (R.ofOpt (pNe (.lst (Rr.map fr)) (.lst (Rr.map fr))) [o]) tblK = _
    rw [ne]
    rfl
  have i2 : tVal (eOp2 pNe (eFrz (fCall (runFn T 69) 138 (aCons (eOpN nTuple (aCons (eVar 5) (aNil))) (aCons (eVar 4) (aCons (eVar 6) (aNil)))))) (eVar 13)) [s0, .val (.ref 0), s2, c3, .val (fr U), .val (.lst (cs.map bt)), .val (fr q), c7, c8, c9, c10, .val (fr p), .val (.tup (bs.map bt)), .val (.lst (Rr.map fr)), c14] [o] = .ok false [o] := by
    rw [tVal_ev, eOp2_ev, callF (q := .lst (Rr.map fr)) (ag3 (p := .tup (cs.map bt)) (p2 := fr U) (p3 := fr q) rfl rfl rfl) e2 rfl]
    show R.bind (R.ofOpt (pNe (.lst (Rr.map fr)) (.lst (Rr.map fr))) [o]) tblK = _
    rw [ne]
    rfl
  unfold b0_2b10
  rw [sIf_ev, tOr_ev, i1, bind_ok, kOr_f, i2, bindS_ok, kIfS_f, sNil_ev]
theorem t11 (t : Tame 130 U cs) (fq : Fit 10 q) (q0 : 0 < q) (hN : (U / q).floor < 2 ^ 19) : b0_2b11 (runFn T 69) [s0, .val (.ref 0), s2, c3, .val (fr U), .val (.lst (cs.map bt)), .val (fr q), c7, c8, c9, c10, .val (fr p), .val (.tup (bs.map bt)), .val (.lst ((rnds cs U q).map fr)), c14] [o] = .next [s0, .val (.ref 0), s2, c3, .val (fr U), .val (.lst (cs.map bt)), .val (fr q), .val (.dct ((rnds cs U q).map fr) ((rnds cs U q).map fun r => obt (nxt cs U r))), c8, c9, c10, .val (fr p), .val (.tup (bs.map bt)), .val (.lst ((rnds cs U q).map fr)), c14] [o] := by
  have e1 := expected_ok (T := T) (k := 69) (st := [o]) has.sub (by decide) (heard_lst has.sub (t.bok (by decide))) t.apart (fun b hb => ⟨(t.fb b hb).mono (by decide), t.txt b hb⟩) (U := U) (q := q) (t.fp.mono (by decide)) (fq.mono (by decide)) t.pos q0 t.ok hN
  exact set_of (ρ := [s0, .val (.ref 0), s2, c3, .val (fr U), .val (.lst (cs.map bt)), .val (fr q), c7, c8, c9, c10, .val (fr p), .val (.tup (bs.map bt)), .val (.lst ((rnds cs U q).map fr)), c14]) (u := 7) (callF (ag3 (p := .lst (cs.map bt)) (p2 := fr U) (p3 := fr q) rfl rfl rfl) e1 rfl)
theorem t12 : b0_2b12 (runFn T 69) [s0, .val (.ref 0), s2, c3, .val (fr U), .val (.lst (cs.map bt)), .val (fr q), .val (.dct ((rnds cs U q).map fr) ((rnds cs U q).map fun r => obt (nxt cs U r))), c8, c9, c10, .val (fr p), .val (.tup (bs.map bt)), .val (.lst ((rnds cs U q).map fr)), c14] [o] = .next [s0, .val (.ref 0), s2, c3, .val (fr U), .val (.lst (cs.map bt)), .val (fr q), .val (.dct ((rnds cs U q).map fr) ((rnds cs U q).map fun r => obt (nxt cs U r))), c8, c9, c10, .val (fr p), .val (.tup (bs.map bt)), .val (.lst ((rnds cs U q).map fr)), c14] [o] := by
  have ne := ne_frs (rnds cs U q)
  generalize (rnds cs U q).map (fun r => obt (nxt cs U r)) = V
  generalize rnds cs U q = Rr at *
  have i1 : tVal (eOp2 pNe (eFrz (fListD (eVar 7))) (eVar 13)) [s0, .val (.ref 0), s2, c3, .val (fr U), .val (.lst (cs.map bt)), .val (fr q), .val (.dct (Rr.map fr) V), c8, c9, c10, .val (fr p), .val (.tup (bs.map bt)), .val (.lst (Rr.map fr)), c14] [o] = .ok false [o] := by
    show R.bind (R.ofOpt (pNe (.lst (Rr.map fr)) (.lst (Rr.map fr))) [o]) tblK = _
    rw [ne]
    rfl
  unfold b0_2b12
  rw [sIf_ev, i1, bindS_ok, kIfS_f, sNil_ev]
theorem t13 (t : Tame 130 U cs) (fq : Fit 10 q) (q0 : 0 < q) (hN : (U / q).floor < 2 ^ 19) : ∃ c8', b0_2b13 (runFn T 69) [s0, .val (.ref 0), s2, c3, .val (fr U), .val (.lst (cs.map bt)), .val (fr q), .val (.dct ((rnds cs U q).map fr) ((rnds cs U q).map fun r => obt (nxt cs U r))), c8, c9, c10, .val (fr p), .val (.tup (bs.map bt)), .val (.lst ((rnds cs U q).map fr)), c14] [o] = .next [s0, .val (.ref 0), s2, c3, .val (fr U), .val (.lst (cs.map bt)), .val (fr q), .val (.dct ((rnds cs U q).map fr) ((rnds cs U q).map fun r => obt (nxt cs U r))), c8', c9, c10, .val (fr p), .val (.tup (bs.map bt)), .val (.lst ((rnds cs U q).map fr)), c14] [o] := by
  have hm := fun x (h : x ∈ rnds cs U q) => rnds_mem h
  have hd := fun x (h : x ∈ rnds cs U q) => didx_r (fun r => obt (nxt cs U r)) h
  have nt : ∀ r x, nxt cs U r = some x → Txt x.2 := fun r x h => by
    obtain ⟨a1, _, _⟩ := (nx_fold U r cs none).2 x h
    rcases a1 with a1 | ⟨b, hb, _, rfl⟩
    · cases a1
    · exact t.txt b hb
  generalize hV : (rnds cs U q).map (fun r => obt (nxt cs U r)) = V at *
  generalize rnds cs U q = Rr at *
  obtain ⟨ρ', e, c8', rfl⟩ := forGo_pre (st := [o]) (g := gName 8) (body := b0_2b13b (runFn T 69)) fr Rr (fun _ ρ => ∃ c8, ρ = [s0, .val (.ref 0), s2, c3, .val (fr U), .val (.lst (cs.map bt)), .val (fr q), .val (.dct (Rr.map fr) V), c8, c9, c10, .val (fr p), .val (.tup (bs.map bt)), .val (.lst (Rr.map fr)), c14]) (by
    rintro pre x post ρ ep ⟨c8, rfl⟩
    have mx : x ∈ Rr := by rw [ep]; exact List.mem_append_right _ List.mem_cons_self
    obtain ⟨m, m1, m2, er, _⟩ := hm x mx
    have fm : Fit 20 ((m : Int) : Rat) := fit_int (by omega) (by decide)
    have f1 : Fit 200 x := by rw [er]; exact (fit_mul fq fm).mono (by decide)
    have m0 : ((1 : Int) : Rat) ≤ (m : Rat) := Rat.intCast_le_intCast.mpr m1
    have one : ((1 : Int) : Rat) = 1 := rfl
    rw [one] at m0
    have x0 : 0 < x := by
      rw [er]
      exact Rat.mul_pos q0 (by grind)
    have hx : (U / x).floor < 2 ^ 19 := by
      have h1 : q ≤ x := by
        have := Rat.mul_le_mul_of_nonneg_left m0 (Rat.le_of_lt q0)
        rw [Rat.mul_one, ← er] at this
        exact this
      have h2 : (U / x).floor ≤ (U / q).floor := by
        rw [Rat.le_floor_iff, le_div_iff' q0]
        have f := (floor_mul (t := U) x0).1
        have f0 : 0 ≤ (U / x).floor := by
          rw [Rat.le_floor_iff, le_div_iff' x0]
          have : ((0 : Int) : Rat) = 0 := rfl
          rw [this, Rat.mul_zero]
          exact Rat.le_of_lt t.pos
        have f0' : (0 : Rat) ≤ ((U / x).floor : Rat) := by exact_mod_cast f0
        have := Rat.mul_le_mul_of_nonneg_right h1 f0'
        exact Rat.le_trans this f
      omega
    have e1 := lnext_ok (k := 69) (st := [o]) (by decide) t (by decide) f1 x0 hx
    have ne := ne_obt (nt x)
    refine ⟨[s0, .val (.ref 0), s2, c3, .val (fr U), .val (.lst (cs.map bt)), .val (fr q), .val (.dct (Rr.map fr) V), .val (fr x), c9, c10, .val (fr p), .val (.tup (bs.map bt)), .val (.lst (Rr.map fr)), c14], _, rfl, .inl ?_, .val (fr x), rfl⟩
    have i1 : eOp2 pDIdx (eVar 7) (eVar 8) [s0, .val (.ref 0), s2, c3, .val (fr U), .val (.lst (cs.map bt)), .val (fr q), .val (.dct (Rr.map fr) V), .val (fr x), c9, c10, .val (fr p), .val (.tup (bs.map bt)), .val (.lst (Rr.map fr)), c14] [o] = .ok (obt (nxt cs U x)) [o] := by
      show R.ofOpt (pDIdx (.dct (Rr.map fr) V) (fr x)) [o] = _
      rw [hd x mx]
      rfl
    have i2 : tVal (eOp2 pNe (eOp2 pDIdx (eVar 7) (eVar 8)) (eFrz (fCall (runFn T 69) 2 (aCons (eVar 5) (aCons (eVar 4) (aCons (eVar 8) (aNil))))))) [s0, .val (.ref 0), s2, c3, .val (fr U), .val (.lst (cs.map bt)), .val (fr q), .val (.dct (Rr.map fr) V), .val (fr x), c9, c10, .val (fr p), .val (.tup (bs.map bt)), .val (.lst (Rr.map fr)), c14] [o] = .ok false [o] := by
      rw [tVal_ev, eOp2_ev, i1, bind_ok, kOp2_ev, callF (ag3 (p := .lst (cs.map bt)) (p2 := fr U) (p3 := fr x) rfl rfl rfl) e1 rfl, bind_ok, kOpt_ev, ne]
      rfl
    unfold b0_2b13b
    rw [sIf_ev, i2, bindS_ok, kIfS_f, sNil_ev]) (ρ := [s0, .val (.ref 0), s2, c3, .val (fr U), .val (.lst (cs.map bt)), .val (fr q), .val (.dct (Rr.map fr) V), c8, c9, c10, .val (fr p), .val (.tup (bs.map bt)), .val (.lst (Rr.map fr)), c14]) ⟨c8, rfl⟩
  refine ⟨c8', ?_⟩
  unfold b0_2b13
  rw [sFor_ev, show wItems (eVar 13) [s0, .val (.ref 0), s2, c3, .val (fr U), .val (.lst (cs.map bt)), .val (fr q), .val (.dct (Rr.map fr) V), c8, c9, c10, .val (fr p), .val (.tup (bs.map bt)), .val (.lst (Rr.map fr)), c14] [o] = .ok (Rr.map fr) [o] from rfl, bindS_ok, kFor_ev, e]
theorem turn (ho : RowOk ns o) : ∃ o' d4 d5 d6 d7 d8 d11 d12 d13 d14, b0_2b (runFn T 69) [s0, .val (.ref 0), s2, c3, c4, c5, c6, c7, c8, c9, c10, c11, c12, c13, c14] [o] = .next [s0, .val (.ref 0), s2, c3, d4, d5, d6, d7, d8, c9, c10, d11, d12, d13, d14] [o'] ∧ RowOk ns o' := by
  obtain ⟨p, bs, o1, e1, h1, d⟩ := t1 (s0 := s0) (s2 := s2) (c3 := c3) (c4 := c4) (c5 := c5) (c6 := c6) (c7 := c7) (c8 := c8) (c9 := c9) (c10 := c10) (c11 := c11) (c12 := c12) (c13 := c13) (c14 := c14) ho
  obtain ⟨U, o2, e2, h2, u0, u1, fU⟩ := t2 (s0 := s0) (s2 := s2) (c3 := c3) (c4 := c4) (c5 := c5) (c6 := c6) (c7 := c7) (c8 := c8) (c9 := c9) (c10 := c10) (c13 := c13) (c14 := c14) h1 d
  have e3 := t3 (s0 := s0) (s2 := s2) (c3 := c3) (c5 := c5) (c6 := c6) (c7 := c7) (c8 := c8) (c9 := c9) (c10 := c10) (c13 := c13) (c14 := c14) (o := o2) d u0 u1 fU
  have ht := (heard_tame d u0 u1 fU).1
  generalize betw (leastForm p bs).1 (leastForm p bs).2 0 U = L at e3 ht
  obtain ⟨cs, o3, e4, h3, sub⟩ := t4 (s0 := s0) (s2 := s2) (c3 := c3) (c6 := c6) (c7 := c7) (c8 := c8) (c9 := c9) (c10 := c10) (c13 := c13) (c14 := c14) (p := p) (bs := bs) (U := U) h2 ht.len
  have t := Tame.sub ht sub
  obtain ⟨q, o4, e5, h4, q0, q4, fq⟩ := t5 (s0 := s0) (s2 := s2) (c3 := c3) (c6 := c6) (c7 := c7) (c8 := c8) (c9 := c9) (c10 := c10) (c13 := c13) (c14 := c14) (p := p) (bs := bs) (cs := cs) (U := U) h3
  have hN : (U / q).floor < 2 ^ 19 := by
    have : (U / q).floor < 109 := by
      rw [Rat.floor_lt_iff, Rat.div_lt_iff' q0]
      show U < q * (109 : Rat)
      grind
    omega
  have e67 := t67 (s0 := s0) (s2 := s2) (c3 := c3) (c7 := c7) (c8 := c8) (c9 := c9) (c10 := c10) (c13 := c13) (c14 := c14) (p := p) (bs := bs) (cs := cs) (U := U) (q := q) (o := o4)
  obtain ⟨d14, e8⟩ := t8 (s0 := s0) (s2 := s2) (c3 := c3) (c7 := c7) (c8 := c8) (c9 := c9) (c10 := c10) (p := p) (bs := bs) (o := o4) t fq q0 hN
  have e9 : b0_2b9 (runFn T 69) [s0, .val (.ref 0), s2, c3, .val (fr U), .val (.lst (cs.map bt)), .val (fr q), c7, c8, c9, c10, .val (fr p), .val (.tup (bs.map bt)), .own ((rnds cs U q).map fr), d14] [o4] = .next [s0, .val (.ref 0), s2, c3, .val (fr U), .val (.lst (cs.map bt)), .val (fr q), c7, c8, c9, c10, .val (fr p), .val (.tup (bs.map bt)), .val (.lst ((rnds cs U q).map fr)), d14] [o4] := rfl
  have e10 := t10 (s0 := s0) (s2 := s2) (c3 := c3) (c7 := c7) (c8 := c8) (c9 := c9) (c10 := c10) (c14 := d14) (p := p) (bs := bs) (o := o4) t fq q0 hN
  have e11 := t11 (s0 := s0) (s2 := s2) (c3 := c3) (c7 := c7) (c8 := c8) (c9 := c9) (c10 := c10) (c14 := d14) (p := p) (bs := bs) (o := o4) t fq q0 hN
  have e12 := t12 (s0 := s0) (s2 := s2) (c3 := c3) (c8 := c8) (c9 := c9) (c10 := c10) (c14 := d14) (p := p) (bs := bs) (cs := cs) (U := U) (q := q) (o := o4)
  obtain ⟨d8, e13⟩ := t13 (s0 := s0) (s2 := s2) (c3 := c3) (c8 := c8) (c9 := c9) (c10 := c10) (c14 := d14) (p := p) (bs := bs) (o := o4) t fq q0 hN
  refine ⟨o4, .val (fr U), .val (.lst (cs.map bt)), .val (fr q), .val (.dct ((rnds cs U q).map fr) ((rnds cs U q).map fun r => obt (nxt cs U r))), d8, .val (fr p), .val (.tup (bs.map bt)), .val (.lst ((rnds cs U q).map fr)), d14, ?_, h4⟩
  rw [sSeq_ev] at e67
  have e6 : b0_2b6 (runFn T 69) [s0, .val (.ref 0), s2, c3, .val (fr U), .own (cs.map bt), .val (fr q), c7, c8, c9, c10, .val (fr p), .val (.tup (bs.map bt)), c13, c14] [o4] = .next [s0, .val (.ref 0), s2, c3, .val (fr U), .own (cs.map bt), .val (fr q), c7, c8, c9, c10, .val (fr p), .val (.tup (bs.map bt)), .own [], .val (.int 1)] [o4] := rfl
  rw [e6, seq_next] at e67
  unfold b0_2b
  rw [sSeq_ev, e1, seq_next, sSeq_ev, e2, seq_next, sSeq_ev, e3, seq_next, sSeq_ev, e4, seq_next, sSeq_ev, e5, seq_next, sSeq_ev, e6, seq_next, sSeq_ev, e67, seq_next, sSeq_ev, e8, seq_next, sSeq_ev, e9, seq_next, sSeq_ev, e10, seq_next, sSeq_ev, e11, seq_next, sSeq_ev, e12, seq_next, e13]
def fq (a b : Int) : PV := .tup [.int a, .int b]
def one1 (a b : Int) (s : List Nat) : PV := .tup [fq a b, .str s]
def oddA : PV := .lst [.non, .str [97, 98], .dct [] [], .lst [one1 9 1 [97]], .lst [one1 1 1 [97], one1 0 1 [97]], .lst [one1 0 1 []], .lst [.int 0], .lst [one1 0 2 [97]]]
def oddB : PV := .lst [.non, .int 0, fq 0 1, fq (-1) 1, fq 2 4, .int 3, .str [49]]
theorem hrd_all (o : SO) {v w : Int} (h0 : 0 ≤ v) (h1 : v < 8) (g0 : 0 ≤ w) (g1 : w < 2) : ∃ x, pIdxS oddA (.int v) [o] = some x ∧ runFn T 69 3 [x, fq 9 1, fq 1 1, .int w] [o] = .ok (.val (.bl true)) [o] := by
  have hv : v = 0 ∨ v = 1 ∨ v = 2 ∨ v = 3 ∨ v = 4 ∨ v = 5 ∨ v = 6 ∨ v = 7 := by omega
  have : w = 0 ∨ w = 1 := by omega
  rcases hv with e | e | e | e | e | e | e | e <;> subst e <;> rcases this with e | e <;> subst e <;> exact ⟨_, rfl, by kernel_rfl⟩
theorem bad_all (o : SO) {v w : Int} (h0 : 0 ≤ v) (h1 : v < 7) (g0 : 0 ≤ w) (g1 : w < 2) : ∃ x, pIdxS oddB (.int v) [o] = some x ∧ ∀ o, runFn T 69 3 [.lst [], x, fq 1 1, .int w] [o] = .ok (.val (.bl true)) [o] ∧ runFn T 69 3 [.lst [], fq 1 1, x, .int w] [o] = .ok (.val (.bl true)) [o] := by
  have hv : v = 0 ∨ v = 1 ∨ v = 2 ∨ v = 3 ∨ v = 4 ∨ v = 5 ∨ v = 6 := by omega
  have : w = 0 ∨ w = 1 := by omega
  rcases hv with e | e | e | e | e | e | e <;> subst e <;> rcases this with e | e <;> subst e <;> exact ⟨_, rfl, fun o => ⟨by kernel_rfl, by kernel_rfl⟩⟩
theorem u3 : b0_3 (runFn T 69) [s0, .val (.ref 0), s2, c3, c4, c5, c6, c7, c8, c9, c10, c11, c12, c13, c14] [o] = .next [s0, .val (.ref 0), s2, .val oddA, c4, c5, c6, c7, c8, c9, c10, c11, c12, c13, c14] [o] := by kernel_rfl
theorem u4 (ho : RowOk ns o) : ∃ o', b0_4 (runFn T 69) [s0, .val (.ref 0), s2, .val oddA, c4, c5, c6, c7, c8, c9, c10, c11, c12, c13, c14] [o] = .next [s0, .val (.ref 0), s2, .val oddA, c4, c5, c6, c7, c8, c9, c10, c11, c12, c13, c14] [o'] ∧ RowOk ns o' := by
  obtain ⟨v, o1, e1, v0, v1, h1⟩ := ltaken_ok (T := T) (k := 69) (id := 183) rfl (by decide) (rest := []) (m := 8) ho
  obtain ⟨w, o2, e2, w0, w1, h2⟩ := ltaken_ok (T := T) (k := 69) (id := 183) rfl (by decide) (rest := []) (m := 2) h1
  obtain ⟨x, e3, e4⟩ := hrd_all o2 v0 v1 w0 w1
  have e3' : pIdxS oddA (.int v) [o1] = some x := e3
  have e5 : nLenS oddA [o] = some (.int 8) := rfl
  generalize oddA = L at e3' e5 ⊢
  refine ⟨o2, ?_, h2⟩
  unfold fq at e4
  unfold b0_4
  simp [e1, e2, e3', e4, e5]
theorem u5 : b0_5 (runFn T 69) [s0, .val (.ref 0), s2, .val oddA, c4, c5, c6, c7, c8, c9, c10, c11, c12, c13, c14] [o] = .next [s0, .val (.ref 0), s2, .val oddB, c4, c5, c6, c7, c8, c9, c10, c11, c12, c13, c14] [o] := by kernel_rfl
theorem u67 (ho : RowOk ns o) : ∃ o', (sSeq (b0_6 (runFn T 69)) (b0_7 (runFn T 69))) [s0, .val (.ref 0), s2, .val oddB, c4, c5, c6, c7, c8, c9, c10, c11, c12, c13, c14] [o] = .ret (.val (.bl true)) [o'] := by
  obtain ⟨v, o1, e1, v0, v1, h1⟩ := ltaken_ok (T := T) (k := 69) (id := 183) rfl (by decide) (rest := []) (m := 7) ho
  obtain ⟨w, o2, e2, w0, w1, h2⟩ := ltaken_ok (T := T) (k := 69) (id := 183) rfl (by decide) (rest := []) (m := 2) h1
  obtain ⟨x, e3, e4⟩ := bad_all o1 v0 v1 w0 w1
  obtain ⟨e6, e7⟩ := e4 o2
  have e5 : nLenS oddB [o] = some (.int 7) := rfl
  generalize oddB = L at e3 e5 ⊢
  refine ⟨o2, ?_⟩
  unfold fq at e6 e7
  have w6 : b0_6 (runFn T 69) [s0, .val (.ref 0), s2, .val L, c4, c5, c6, c7, c8, c9, c10, c11, c12, c13, c14] [o] = .next [s0, .val (.ref 0), s2, .val L, c4, c5, c6, c7, c8, .val x, .val (.int w), c11, c12, c13, c14] [o2] := by
    unfold b0_6
    simp [e1, e2, e3, e5]
  rw [sSeq_ev, w6, seq_next]
  unfold b0_7
  simp [e6, e7]
theorem law_k10 (ns : List Int) : ∃ st, runFn T 70 0 [.scr ns] [] = .ok (.val (.bl true)) st := by
  obtain ⟨ρ', st', e1, o', hst, hr, c2, c4, c5, c6, c7, c8, c11, c12, c13, c14, rfl⟩ := forGo_st (g := gName 2) (body := b0_2b (runFn T 69)) (fun i : Nat => PV.int (i : Int)) (List.range 3)
    (fun pre ρ st => ∃ o', st = [o'] ∧ RowOk ns o' ∧ ∃ c2 c4 c5 c6 c7 c8 c11 c12 c13 c14, ρ = [.val (.scr ns), .val (.ref 0), c2, .un, c4, c5, c6, c7, c8, .un, .un, c11, c12, c13, c14])
    (by
      rintro pre i post _ _ hy ⟨o', rfl, ho, c2, c4, c5, c6, c7, c8, c11, c12, c13, c14, rfl⟩
      obtain ⟨o2, d4, d5, d6, d7, d8, d11, d12, d13, d14, e, h2⟩ := turn (s0 := .val (.scr ns)) (s2 := .val (.int (i : Int))) (c3 := .un) (c4 := c4) (c5 := c5) (c6 := c6) (c7 := c7) (c8 := c8) (c9 := .un) (c10 := .un) (c11 := c11) (c12 := c12) (c13 := c13) (c14 := c14) ho
      exact ⟨_, _, _, _, rfl, .inl e, o2, rfl, h2, _, _, _, _, _, _, _, _, _, _, rfl⟩) (ρ := [.val (.scr ns), .val (.ref 0), .un, .un, .un, .un, .un, .un, .un, .un, .un, .un, .un, .un, .un]) (st := [rowOf ns 0 20 0])
    ⟨_, rfl, ⟨0, 20, 0, rfl, by decide, by decide, by decide⟩, _, _, _, _, _, _, _, _, _, _, rfl⟩
  subst hst
  obtain ⟨o3, e4, h3⟩ := u4 (s0 := .val (.scr ns)) (s2 := c2) (c4 := c4) (c5 := c5) (c6 := c6) (c7 := c7) (c8 := c8) (c9 := .un) (c10 := .un) (c11 := c11) (c12 := c12) (c13 := c13) (c14 := c14) hr
  obtain ⟨o4, e67⟩ := u67 (s0 := .val (.scr ns)) (s2 := c2) (c4 := c4) (c5 := c5) (c6 := c6) (c7 := c7) (c8 := c8) (c9 := .un) (c10 := .un) (c11 := c11) (c12 := c12) (c13 := c13) (c14 := c14) h3
  refine ⟨[o4], ?_⟩
  rw [run_fn (T := T) (k := 69) (id := 0) (ps := 1) (n := 15) (body := b0) rfl rfl, b0_eq]
  show BR.finish (b0_ (runFn T 69) [.val (.scr ns), .un, .un, .un, .un, .un, .un, .un, .un, .un, .un, .un, .un, .un, .un] []) = _
  unfold b0_
  have ew : wRng1 (eC (.int 3)) [.val (.scr ns), .val (.ref 0), .un, .un, .un, .un, .un, .un, .un, .un, .un, .un, .un, .un, .un] [rowOf ns 0 20 0] = .ok ((List.range 3).map fun i : Nat => PV.int (i : Int)) [rowOf ns 0 20 0] := by
    rw [wRng1_ev, eC_ev, bind_ok, kLs_ev, show (PV.int 3) = .int ((3 : Nat) : Int) from rfl, rng1_nat (by decide), ofOpt_some]
  rw [sSeq_ev, show b0_1 (runFn T 69) [.val (.scr ns), .un, .un, .un, .un, .un, .un, .un, .un, .un, .un, .un, .un, .un, .un] [] = .next [.val (.scr ns), .val (.ref 0), .un, .un, .un, .un, .un, .un, .un, .un, .un, .un, .un, .un, .un] [rowOf ns 0 20 0] from rfl, seq_next, sSeq_ev]
  have e2 : b0_2 (runFn T 69) [.val (.scr ns), .val (.ref 0), .un, .un, .un, .un, .un, .un, .un, .un, .un, .un, .un, .un, .un] [rowOf ns 0 20 0] = .next [.val (.scr ns), .val (.ref 0), c2, .un, c4, c5, c6, c7, c8, .un, .un, c11, c12, c13, c14] [o'] := by
    unfold b0_2
    rw [sFor_ev, ew, bindS_ok, kFor_ev, e1]
  rw [e2, seq_next, sSeq_ev, u3, seq_next, sSeq_ev, e4, seq_next, sSeq_ev, u5, seq_next, e67]
  rfl
end
end K10
set_option maxHeartbeats 0
theorem PySem.Challenge.cw_beatrounds_k10_whole_heard_holds : PySem.Challenge.rw_beatrounds_k10_whole_heard.Holds := by
  exact K10.holds (fun ns _ => K10.law_k10 ns)
