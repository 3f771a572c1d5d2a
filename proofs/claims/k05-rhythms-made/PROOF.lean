import PyProof.Rows.All
import Wide.All
import OpenK.AllK
import Wide.FinOn
import HandS.ForMost
import HandS.ExcInit
import HandS.ExcField
import HandS.HeadHook1
import HandS.HeadHook2
import HandS.HeadHook3
import HandS.HeadHook4
import HandS.Head0
import HandS.Head1
import HandS.Head2
import HandS.HeadEnd
import KE.KDictKeyed
import HandS.Exc
import HandS.Wide
import HandS.CallSlots
import HandS.TupAny
import PyProof.StrOps2
import HandS.ExcOwn
import HandS.WordsExc
import HandS.Defaults
import HandS.NoneIn
import HandS.Property
import HandS.Style
import PyProof.RulesMatch
import HandS.TryMany
import HandS.Iter
import HandS.IsInst
import HandS.Zip
import KE.GoesZip
import PyProof.EnumMake
import KE.GoesMore
import HandS.Sort
import HandS.SortOrd
import HandS.SortRule
import HandS.DictComp
import HandS.DictTup
import KE.KDictList
import HandS.SlotsOwn
import KE.KOpsOwn
import PySem.Challenge.RW_beatrounds_k05_rhythms_made
set_option Elab.async false
set_option linter.all false
set_option maxRecDepth 100000
/-! BrHd: what the head looks at: it stands first, for the head needs much room. -/
namespace BR
open PySem PySem.Spec PyProof.Rows L2
open He (ba eqO eqO_ok ga ma fAd)
/-! ### addresses -/
def pAd (K : PySem.W.Frag) (x f : Str) : Addr := ma K (ga K x) f
def gAd (x f : Str) (K : PySem.W.Frag) : Addr := match PySem.W.recIn K (pAd K x f) "property" with
  | some (.ref g :: _) => g
  | _ => 0
/-! ### more facts -/
inductive Fb where
  | prop (x f : Str)
  | oex (x : Str)
  | bex (x : Str)
  | xfc (x : Str)
  | ini (x : Str)
  | tab (x : Str) (kvs : List (Str × Str))
  /-- an own operator, by its def; what stands at its right -/
  | bin (x : Str) (nm : String) (f : Str)
  | fnc (x f : Str)
  | isi (x : Str)
  /-- != of a class that says nothing of it -/
  | one (x : Str)
def fnB (K : PySem.W.Frag) (x f : Str) : Bool := eqO (PySem.W.findIn K (.ref (ga K x)) f) (some (some (.ref (ma K (ga K x) f)))) && PySem.W.isFn K (.ref (ma K (ga K x) f))
def oexB (K : PySem.W.Frag) (C : Addr) : Bool := match K.lookup C with
  | some ⟨.type t, _, .cls cd, sl⟩ => (match cd.mro, sl.toList with
    | .ref D :: bm, [_, _, _, _, some (.builtin n), _] => decide (t = "type") && (decide (D = C) && (decide (n = "ValueError.__new__") && (cd.hasDict && (!cd.hasDel && PySem.HandSPX.refsVE bm))))
    | _, _ => false)
  | _ => false
def Fb.ok (K : PySem.W.Frag) : Fb → Bool
  | .prop x f => eqO (PySem.W.findIn K (.ref (ga K x)) f) (some (some (.ref (pAd K x f)))) && (eqO (PySem.W.specialIn K (.ref (pAd K x f)) "__get__") (some (some (.builtin "property.__get__"))) && (decide (PySem.W.takesIn K (.ref (pAd K x f)) = some true) &&
      (match PySem.W.recIn K (pAd K x f) "property" with
        | some (.ref _ :: _) => true
        | _ => false)))
  | .oex x => oexB K (ga K x) && (eqO (PySem.W.findIn K (.ref (ga K x)) "__setattr__") (some (some (.builtin "object.__setattr__"))) && (decide (PySem.W.subIn K (.ref (ga K x)) (.type "BaseException") = some true) && (decide (PySem.W.typeIn K (.ref (ga K x)) = some (.type "type")) && PySem.W.keepIn K (.ref (ga K x)))))
  | .bex x => eqO (PySem.W.specialIn K (.ref (ga K x)) "__getattribute__") (some (some (.builtin "type.__getattribute__"))) && (PySem.W.readsIn K (ga K x) (.type "type") && (match PySem.W.findCls K (.ref (ga K x)) (.type "type") "__init__" with
      | some (.val (.builtin b)) => decide (b = "ValueError.__init__")
      | _ => false))
  | .xfc x => xfB K (ga K x)
  | .ini x => eqO (PySem.W.findIn K (.ref (ga K x)) "__init__") (some (some (.ref (ma K (ga K x) "__init__")))) && decide (PySem.W.typeIn K (.ref (ma K (ga K x) "__init__")) = some (.type "function"))
  | .bin x nm f => fnB K x f && (decide (PySem.dunder nm = f) && (PySem.W.selfFirst K (ga K x) && eqO (PySem.W.findIn K (.ref (ga K x)) (PySem.dunderR nm)) (some none)))
  | .fnc x f => fnB K x f
  | .one x => eqO (PySem.W.findIn K (.ref (ga K x)) "__ne__") (some (some (.builtin "object.__ne__"))) && decide (PySem.W.mroIn K (ga K x) (.type "object") = some true)
  | .isi x => eqO (PySem.W.findIn K (.ref (ga K x)) "__class__") (some (some (.builtin "object.__class__"))) && (eqO (PySem.W.specialIn K (.builtin "object.__class__") "__get__") (some (some (.builtin "getset_descriptor.__get__"))) &&
      (decide (PySem.W.takesIn K (.builtin "object.__class__") = some true) && (decide (PySem.W.mroIn K (ga K x) (.type "object") = some true) && ((PySem.W.clsIn K (ga K x)).isSome && decide (PySem.W.typeIn K (.ref (ga K x)) = some (.type "type"))))))
  | .tab x kvs => kvs.all fun q => match PySem.W.nsIn K (ga K x) q.1 with
    | some (some (.str z _)) => decide (z = q.2)
    | _ => false
structure DD where
  adr : PySem.W.Frag → Addr
  name : Str
  qual : Str
  params : Arguments
  body : List Stmt
  scope : Scope
def fdOf (K : PySem.W.Frag) (a : Addr) : FuncData := match K.lookup a with
  | some ⟨_, _, .func fd, _⟩ => fd
  | _ => ⟨Str.empty, Str.empty, ⟨[], [], none, [], [], none, []⟩, .stmts [], ⟨.function, [], false, false, []⟩, 0, [], .none, .none, .none, .none, none, .none, .none, 0⟩
def fnWA (K : PySem.W.Frag) (a : Addr) : He.FnW := match K.lookup a with
  | some ⟨_, _, .func fd, _⟩ => some (fd.name, fd.qualname, fd.params, fd.body, fd.scope, fd.globals, fd.closure, fd.builtins)
  | _ => none
def DD.val (d : DD) : He.FnW := some (d.name, d.qual, d.params, .stmts d.body, d.scope, mainGlobals, [], builtinsNs)
def noneV : Value → Bool
  | .none => true
  | _ => false
def DD.ok (K : PySem.W.Frag) (d : DD) : Bool := PySem.W.keepIn K (.ref (d.adr K)) && (match K.lookup (d.adr K) with
  | some ⟨_, _, .func fd, _⟩ => PySem.W.codeIn K fd.code d.qual && noneV fd.defaults
  | _ => false)
/-! ### the Hook -/
def exB (fb : List Fb) (gs : List DD) (K : PySem.W.Frag) : Bool := (fb.all fun f => f.ok K) && gs.all fun d => d.ok K
/-- what the module's names reach, and what the classes' reading asks of the boot -/
def asB (g : Addr → Option Obj) : Nat → List Addr
  | 0 => [mainGlobals, cStatics]
  | n + 1 => He.growD g (asB g n)
abbrev AlB : Type := Bool × List (Option (List (Option (Str × Int)))) × List He.FnW
def lookB (fa : List He.Fa) (fb : List Fb) (ts : List He.Tab) (gs : List DD) (K : PySem.W.Frag) : AlB := ((fa.all fun f => f.ok K) && exB fb gs K, ts.map fun t => He.dicW K (t.1 K), gs.map fun d => fnWA K (d.adr K))
def obsB (n : Nat) (fa : List He.Fa) (fb : List Fb) (ts : List He.Tab) (gs : List DD) (g : Addr → Option Obj) : AlB := lookB fa fb ts gs (He.frT g (asB g n))
section
open PySem.W HandSHeadRun
/-- the run of the top -/
noncomputable abbrev topRun (r : OpenRow) (M : Nat) (w : World) (os : OsState) : Option SharedT := endF (stepQ (denQ tabQ) r.prog w) M r.prog w os
/-- the names' objects, so far as the facts ask -/
def kOf (n : Nat) (s : SharedT) : Frag := He.frT (getT s) (asB (getT s) n)
def Eq1 (r : OpenRow) (q : Program) (M : Nat) (loose : List Str) (w : World) : Prop := ∀ os : OsState, (topRun r M w os).map (fun s => (looksF r.prog (boot_heap w.params) s.abs, seenQ q loose (importedModules r.prog.main.body) (fun s => xlAt q [] s && recOk r.toRowW.records s) s.abs)) = some (true, openGood q loose)
def Eq2 (n : Nat) (fa : List He.Fa) (r : OpenRow) (M : Nat) (w : World) : Prop := ∀ os : OsState, (topRun r M w os).map (fun s => fa.all fun f => f.ok (kOf n s)) = some true
def Eq3 (n : Nat) (fb : List Fb) (gs : List DD) (r : OpenRow) (M : Nat) (w : World) : Prop := ∀ os : OsState, (topRun r M w os).map (fun s => exB fb gs (kOf n s)) = some true
def Eq4 (n : Nat) (ts : List He.Tab) (gs : List DD) (r : OpenRow) (M : Nat) (w : World) : Prop := ∀ os : OsState, (topRun r M w os).map (fun s => (ts.map fun t => He.dicW (kOf n s) (t.1 (kOf n s)), gs.map fun d => fnWA (kOf n s) (d.adr (kOf n s)))) = some (ts.map fun t => some (He.keysIn w.params t.2), gs.map DD.val)
theorem both_worlds {P : World → Prop} (h : ∀ (b : Bool) (w : World), P (w.withFollow "special-get-raises" b)) (w : World) : P w := by
  rw [← World.withFollow_self w "special-get-raises"]
  exact h _ _
end
end BR
set_option Elab.async false
set_option linter.all false
set_option pp.deepTerms false
set_option maxRecDepth 100000
set_option maxHeartbeats 0
namespace K05
open PySem PySem.Spec PyProof.Rows L2 BR
open He (ga ma)
def top (i : Nat) : Stmt := PySem.Challenge.pw_beatrounds_k05_rhythms_made.main.body.getD i (.Pass ⟨0, 0, 0, 0⟩)
def clsBody : Stmt → List Stmt
  | .ClassDef (body := b) .. => b
  | _ => []
def ctop (i j : Nat) : Stmt := (clsBody (top i)).getD j (.Pass ⟨0, 0, 0, 0⟩)
abbrev s0 : Stmt := top 52
abbrev s184 : Stmt := top 47
abbrev s111 : Stmt := ctop 35 0
abbrev s185 : Stmt := top 48
abbrev s112 : Stmt := ctop 35 1
abbrev s113 : Stmt := ctop 35 2
abbrev s115 : Stmt := ctop 35 4
abbrev s162 : Stmt := top 42
abbrev s114 : Stmt := ctop 35 3
abbrev s1 : Stmt := top 51
abbrev s161 : Stmt := top 41
abbrev s183 : Stmt := top 40
abbrev s116 : Stmt := ctop 35 5
abbrev s187 : Stmt := top 50
abbrev s117 : Stmt := ctop 35 6
abbrev s186 : Stmt := top 49
abbrev s105 : Stmt := top 29
abbrev s108 : Stmt := top 32
abbrev s110 : Stmt := top 34
abbrev s163 : Stmt := top 43
abbrev s164 : Stmt := top 44
abbrev s77 : Stmt := top 21
abbrev s74 : Stmt := top 18
abbrev s72 : Stmt := top 16
abbrev s75 : Stmt := top 19
abbrev s71 : Stmt := top 15
abbrev s69 : Stmt := top 13
abbrev s73 : Stmt := top 17
abbrev s68 : Stmt := top 12
abbrev s107 : Stmt := top 31
abbrev s109 : Stmt := top 33
abbrev s70 : Stmt := top 14
abbrev s67 : Stmt := top 11
abbrev s64 : Stmt := top 8
abbrev s65 : Stmt := top 9
abbrev s106 : Stmt := top 30
abbrev s_x_InvalidPeriod : Stmt := ctop 4 0
abbrev s_x_InvalidBeats : Stmt := ctop 5 0
def gs : List DD := [
  ⟨(fun K => ga K "law"), "law", "law", defArgs s0, defBody s0, defScope s0⟩,
  ⟨(fun K => ga K "_law_rhythm"), "_law_rhythm", "_law_rhythm", defArgs s184, defBody s184, defScope s184⟩,
  ⟨(fun K => ma K (ga K "Rhythm") "__init__"), "__init__", "Rhythm.__init__", defArgs s111, defBody s111, defScope s111⟩,
  ⟨(fun K => ga K "_law_least"), "_law_least", "_law_least", defArgs s185, defBody s185, defScope s185⟩,
  ⟨(gAd "Rhythm" "period"), "period", "Rhythm.period", defArgs s112, defBody s112, defScope s112⟩,
  ⟨(gAd "Rhythm" "beats"), "beats", "Rhythm.beats", defArgs s113, defBody s113, defScope s113⟩,
  ⟨(fun K => ma K (ga K "Rhythm") "__len__"), "__len__", "Rhythm.__len__", defArgs s115, defBody s115, defScope s115⟩,
  ⟨(fun K => ga K "_law_sum"), "_law_sum", "_law_sum", defArgs s162, defBody s162, defScope s162⟩,
  ⟨(fun K => ma K (ga K "Rhythm") "__eq__"), "__eq__", "Rhythm.__eq__", defArgs s114, defBody s114, defScope s114⟩,
  ⟨(fun K => ga K "_law_refused"), "_law_refused", "_law_refused", defArgs s1, defBody s1, defScope s1⟩,
  ⟨(fun K => ga K "_law_frac"), "_law_frac", "_law_frac", defArgs s161, defBody s161, defScope s161⟩,
  ⟨(fun K => ga K "_law_taken"), "_law_taken", "_law_taken", defArgs s183, defBody s183, defScope s183⟩,
  ⟨(fun K => ma K (ga K "Rhythm") "sound"), "sound", "Rhythm.sound", defArgs s116, defBody s116, defScope s116⟩,
  ⟨(fun K => ga K "_law_sound"), "_law_sound", "_law_sound", defArgs s187, defBody s187, defScope s187⟩,
  ⟨(fun K => ma K (ga K "Rhythm") "between"), "between", "Rhythm.between", defArgs s117, defBody s117, defScope s117⟩,
  ⟨(fun K => ga K "_law_between"), "_law_between", "_law_between", defArgs s186, defBody s186, defScope s186⟩,
  ⟨(fun K => ga K "is_time"), "is_time", "is_time", defArgs s105, defBody s105, defScope s105⟩,
  ⟨(fun K => ga K "are_beats"), "are_beats", "are_beats", defArgs s108, defBody s108, defScope s108⟩,
  ⟨(fun K => ga K "least_form"), "least_form", "least_form", defArgs s110, defBody s110, defScope s110⟩,
  ⟨(fun K => ga K "_law_times"), "_law_times", "_law_times", defArgs s163, defBody s163, defScope s163⟩,
  ⟨(fun K => ga K "_law_less"), "_law_less", "_law_less", defArgs s164, defBody s164, defScope s164⟩,
  ⟨(fun K => ga K "beyond"), "beyond", "beyond", defArgs s77, defBody s77, defScope s77⟩,
  ⟨(fun K => ga K "floor"), "floor", "floor", defArgs s74, defBody s74, defScope s74⟩,
  ⟨(fun K => ga K "over"), "over", "over", defArgs s72, defBody s72, defScope s72⟩,
  ⟨(fun K => ga K "ceiling"), "ceiling", "ceiling", defArgs s75, defBody s75, defScope s75⟩,
  ⟨(fun K => ga K "product"), "product", "product", defArgs s71, defBody s71, defScope s71⟩,
  ⟨(fun K => ga K "added"), "added", "added", defArgs s69, defBody s69, defScope s69⟩,
  ⟨(fun K => ga K "is_less"), "is_less", "is_less", defArgs s73, defBody s73, defScope s73⟩,
  ⟨(fun K => ga K "is_fraction"), "is_fraction", "is_fraction", defArgs s68, defBody s68, defScope s68⟩,
  ⟨(fun K => ga K "is_beat"), "is_beat", "is_beat", defArgs s107, defBody s107, defScope s107⟩,
  ⟨(fun K => ga K "comes_round"), "comes_round", "comes_round", defArgs s109, defBody s109, defScope s109⟩,
  ⟨(fun K => ga K "less"), "less", "less", defArgs s70, defBody s70, defScope s70⟩,
  ⟨(fun K => ga K "fraction"), "fraction", "fraction", defArgs s67, defBody s67, defScope s67⟩,
  ⟨(fun K => ga K "is_whole"), "is_whole", "is_whole", defArgs s64, defBody s64, defScope s64⟩,
  ⟨(fun K => ga K "common"), "common", "common", defArgs s65, defBody s65, defScope s65⟩,
  ⟨(fun K => ga K "are_letters"), "are_letters", "are_letters", defArgs s106, defBody s106, defScope s106⟩,
  ⟨(fun K => ma K (ga K "InvalidPeriod") "__init__"), "__init__", "InvalidPeriod.__init__", defArgs s_x_InvalidPeriod, defBody s_x_InvalidPeriod, defScope s_x_InvalidPeriod⟩,
  ⟨(fun K => ma K (ga K "InvalidBeats") "__init__"), "__init__", "InvalidBeats.__init__", defArgs s_x_InvalidBeats, defBody s_x_InvalidBeats, defScope s_x_InvalidBeats⟩]
def fa : List He.Fa := [.free "range", .glo "_law_rhythm", .mkr "Rhythm", .glo "Rhythm", .glo "_law_least", .cls "Rhythm", .free "len", .glo "_law_sum", .free "tuple", .glo "_law_refused", .glo "_law_taken", .glo "_law_frac", .meth "Rhythm" "sound", .glo "_law_sound", .meth "Rhythm" "between", .glo "_law_between", .glo "is_time", .glo "InvalidPeriod", .free "isinstance", .glo "are_beats", .glo "InvalidBeats", .glo "least_form", .noat "Rhythm" "size", .noat "Rhythm" "row", .free "dict", .noat "Rhythm" "letters_at", .glo "_law_times", .glo "_law_less", .free "abs", .free "int", .glo "beyond", .free "list", .glo "over", .glo "floor", .glo "ceiling", .glo "product", .glo "added", .glo "is_less", .glo "is_fraction", .glo "is_beat", .free "all", .free "zip", .glo "comes_round", .glo "less", .glo "fraction", .glo "is_whole", .glo "common", .glo "are_letters", .free "enumerate", .free "bool", .free "str", .str "LETTERS" "abcd", .glo "law", .glo "BeatError", .exm "InvalidPeriod" "InvalidPeriod" true, .exm "InvalidBeats" "InvalidPeriod" false, .exm "InvalidPeriod" "InvalidBeats" false, .exm "InvalidBeats" "InvalidBeats" true]
def fb : List Fb := [.prop "Rhythm" "period", .prop "Rhythm" "beats", .fnc "Rhythm" "__len__", .fnc "Rhythm" "__eq__", .one "Rhythm", .oex "InvalidPeriod", .ini "InvalidPeriod", .oex "InvalidBeats", .ini "InvalidBeats", .isi "Rhythm", .bex "BeatError"]
def ts : List He.Tab := []
/-! ### the head -/
abbrev RO : PySem.W.OpenRow := PySem.W.OpenLaw.row PySem.Challenge.rw_beatrounds_k05_rhythms_made
def loose : List Str := [Str.ofString "_wall", Str.ofString "BeatError", Str.ofString "TooMuch", Str.ofString "InvalidPeriod", Str.ofString "InvalidBeats", Str.ofString "InvalidPart", Str.ofString "is_whole", Str.ofString "common", Str.ofString "multiple", Str.ofString "fraction", Str.ofString "is_fraction", Str.ofString "added", Str.ofString "less", Str.ofString "product", Str.ofString "over", Str.ofString "is_less", Str.ofString "floor", Str.ofString "ceiling", Str.ofString "round_of", Str.ofString "beyond", Str.ofString "in_order", Str.ofString "LETTERS", Str.ofString "MOST", Str.ofString "need_few", Str.ofString "beats_of", Str.ofString "is_time", Str.ofString "are_letters", Str.ofString "is_beat", Str.ofString "are_beats", Str.ofString "comes_round", Str.ofString "least_form", Str.ofString "Rhythm", Str.ofString "rhythm_of", Str.ofString "common_round", Str.ofString "both_of", Str.ofString "_law_taken", Str.ofString "_law_frac", Str.ofString "_law_sum", Str.ofString "_law_times", Str.ofString "_law_less", Str.ofString "_law_lcm", Str.ofString "_law_beats", Str.ofString "_law_rhythm", Str.ofString "_law_least", Str.ofString "_law_between", Str.ofString "_law_sound", Str.ofString "_law_refused"]
theorem q1f (w : World) : Eq1 RO (PySem.W.view RO.prog [52]) 20000 loose (w.withFollow "special-get-raises" false) := by
  intro os
  kernel_rfl
theorem q1t (w : World) : Eq1 RO (PySem.W.view RO.prog [52]) 20000 loose (w.withFollow "special-get-raises" true) := by
  intro os
  kernel_rfl
theorem q2f (w : World) : Eq2 5 fa RO 20000 (w.withFollow "special-get-raises" false) := by
  intro os
  kernel_rfl
theorem q2t (w : World) : Eq2 5 fa RO 20000 (w.withFollow "special-get-raises" true) := by
  intro os
  kernel_rfl
theorem q3f (w : World) : Eq3 5 fb gs RO 20000 (w.withFollow "special-get-raises" false) := by
  intro os
  kernel_rfl
theorem q3t (w : World) : Eq3 5 fb gs RO 20000 (w.withFollow "special-get-raises" true) := by
  intro os
  kernel_rfl
theorem q4f (w : World) : Eq4 5 ts gs RO 20000 (w.withFollow "special-get-raises" false) := by
  intro os
  kernel_rfl
theorem q4t (w : World) : Eq4 5 ts gs RO 20000 (w.withFollow "special-get-raises" true) := by
  intro os
  kernel_rfl
end K05
set_option Elab.async false
set_option linter.all false
set_option maxRecDepth 100000
/-! BrA: the pure evaluator: values, stores, results, combinators. -/
namespace BR
open PySem
/-- pure values; lst: a frozen list; scr: the script; ref: an object of the store (a list or an instance that may change) -/
inductive PV where
  | non | bl (b : Bool) | int (i : Int) | str (s : List Nat)
  | tup (xs : List PV) | lst (xs : List PV) | dct (ks vs : List PV)
  | ins (c : Nat) (ns : List Str) (vs : List PV)
  | scr (ns : List Int)
  /-- a pair that zip, enumerate or items gave -/
  | wt (xs : List PV)
  | ref (i : Nat)
  deriving Inhabited
/-- what a name holds: nothing, a value, a list of its own that nobody else has, an instance that is being made -/
inductive SV where
  | un | val (p : PV) | own (xs : List PV) | ins (c : Nat) (ns : List Str) (vs : List PV)
  deriving Inhabited
/-- an object of the store -/
inductive SO where
  | lst (xs : List PV) | ins (c : Nat) (ns : List Str) (vs : List PV)
  deriving Inhabited
abbrev Store := List SO
abbrev Env := List SV
inductive R (α : Type) where
  | ok (a : α) (st : Store) | ex (c : Nat) (ns : List Str) (vs : List PV) (st : Store) | bad
inductive SR where
  | next (ρ : Env) (st : Store) | ret (v : SV) (st : Store) | brk (ρ : Env) (st : Store) | cnt (ρ : Env) (st : Store)
  | ex (c : Nat) (ns : List Str) (vs : List PV) (ρ : Env) (st : Store) | bad
abbrev EM := Env → Store → R PV
abbrev FM := Env → Store → R SV
abbrev BM := Env → Store → R Bool
abbrev AM := Env → Store → R (List PV)
abbrev SM := Env → Store → SR
abbrev CallT := Nat → List PV → Store → R SV
/-- a target -/
abbrev GM := PV → Env → Store → Option (Env × Store)
def R.bind {α β : Type} (r : R α) (f : α → Store → R β) : R β := match r with
  | .ok a st => f a st
  | .ex c ns vs st => .ex c ns vs st
  | .bad => .bad
def R.bindS {α : Type} (r : R α) (ρ : Env) (f : α → Store → SR) : SR := match r with
  | .ok a st => f a st
  | .ex c ns vs st => .ex c ns vs ρ st
  | .bad => .bad
/-- within a comprehension nothing may be raised -/
def R.noex {α : Type} (r : R α) : R α := match r with
  | .ok a st => .ok a st
  | _ => .bad
def R.ofOpt {α : Type} (o : Option α) (st : Store) : R α := match o with
  | some a => .ok a st
  | none => .bad
/-! ### equality -/
mutual
def eqv : PV → PV → Bool
  | .non, .non => true
  | .bl a, .bl b => a == b
  | .int a, .int b => decide (a = b)
  | .bl a, .int b => decide ((if a then 1 else 0) = b)
  | .int a, .bl b => decide (a = (if b then 1 else 0))
  | .str a, .str b => decide (a = b)
  | .tup a, .tup b => eqvs a b
  | .lst a, .lst b => eqvs a b
  | _, _ => false
def eqvs : List PV → List PV → Bool
  | [], [] => true
  | a :: as, b :: bs => eqv a b && eqvs as bs
  | _, _ => false
end
/- what == may be asked of: no dict, no object, no more than n deep -/
mutual
def plain (n : Nat) : PV → Bool
  | .non => true
  | .bl _ => true
  | .int _ => true
  | .str s => s.all fun x => decide (x < 1114112)
  | .tup a => match n with
    | 0 => false
    | k + 1 => plains k a
  | .lst a => match n with
    | 0 => false
    | k + 1 => plains k a
  | _ => false
def plains (n : Nat) : List PV → Bool
  | [] => true
  | a :: as => plain n a && plains n as
end
mutual
/-- no object of the store in it -/
def noref : PV → Bool
  | .tup a => norefs a
  | .wt a => norefs a
  | .lst a => norefs a
  | .dct a b => norefs a && norefs b
  | .ins _ _ a => norefs a
  | .ref _ => false
  | _ => true
def norefs : List PV → Bool
  | [] => true
  | a :: as => noref a && norefs as
end
/-! ### expressions -/
def eC (p : PV) : EM := fun _ st => .ok p st
def eVar (i : Nat) : EM := fun ρ st => match ρ[i]? with
  | some (.val p) => .ok p st
  | _ => .bad
def eOp1 (f : PV → Option PV) (m : EM) : EM := fun ρ st => (m ρ st).bind fun p st1 => R.ofOpt (f p) st1
def eOp2 (f : PV → PV → Option PV) (m1 m2 : EM) : EM := fun ρ st => (m1 ρ st).bind fun p st1 => (m2 ρ st1).bind fun q st2 => R.ofOpt (f p q) st2
def eOp3 (f : PV → PV → PV → Option PV) (m1 m2 m3 : EM) : EM := fun ρ st => (m1 ρ st).bind fun p st1 => (m2 ρ st1).bind fun q st2 => (m3 ρ st2).bind fun r st3 => R.ofOpt (f p q r) st3
def aNil : AM := fun _ st => .ok [] st
def aCons (m : EM) (r : AM) : AM := fun ρ st => (m ρ st).bind fun p st1 => (r ρ st1).bind fun ps st2 => .ok (p :: ps) st2
/-- a built-in by its arguments -/
def eOpN (f : List PV → Option PV) (m : AM) : EM := fun ρ st => (m ρ st).bind fun p st1 => R.ofOpt (f p) st1
def lim : Nat := 1000000
def eTup (m : AM) : EM := fun ρ st => (m ρ st).bind fun ps st1 => if ps.length ≤ lim then .ok (.tup ps) st1 else .bad
def fLst (m : AM) : FM := fun ρ st => (m ρ st).bind fun ps st1 => if ps.length ≤ lim then .ok (.own ps) st1 else .bad
def SV.toPV : SV → Option PV
  | .val p => some p
  | .own xs => some (.lst xs)
  | _ => none
/-- a fresh list is made known as a value -/
def eFrz (m : FM) : EM := fun ρ st => (m ρ st).bind fun v st1 => R.ofOpt v.toPV st1
def fVal (m : EM) : FM := fun ρ st => (m ρ st).bind fun p st1 => .ok (.val p) st1
def fCall (call : CallT) (id : Nat) (m : AM) : FM := fun ρ st => (m ρ st).bind fun ps st1 => call id ps st1
def fIf (c : BM) (a b : FM) : FM := fun ρ st => (c ρ st).bind fun k st1 => if k then a ρ st1 else b ρ st1
def eIf (c : BM) (a b : EM) : EM := fun ρ st => (c ρ st).bind fun k st1 => if k then a ρ st1 else b ρ st1
/-! ### tests -/
def tVal (m : EM) : BM := fun ρ st => (m ρ st).bind fun p st1 => match p with
  | .bl b => .ok b st1
  | _ => .bad
def tNot (m : BM) : BM := fun ρ st => (m ρ st).bind fun k st1 => .ok (!k) st1
def tAnd (a b : BM) : BM := fun ρ st => (a ρ st).bind fun k st1 => if k then b ρ st1 else .ok false st1
def tOr (a b : BM) : BM := fun ρ st => (a ρ st).bind fun k st1 => if k then .ok true st1 else b ρ st1
/-- and, or, not as values (bools) -/
def eAnd (a b : EM) : EM := fun ρ st => (a ρ st).bind fun p st1 => match p with
  | .bl true => b ρ st1
  | .bl false => .ok (.bl false) st1
  | _ => .bad
def eOr (a b : EM) : EM := fun ρ st => (a ρ st).bind fun p st1 => match p with
  | .bl false => b ρ st1
  | .bl true => .ok (.bl true) st1
  | _ => .bad
def eNot (a : EM) : EM := fun ρ st => (a ρ st).bind fun p st1 => match p with
  | .bl k => .ok (.bl (!k)) st1
  | _ => .bad
/-! ### operations on values -/
def pAdd : PV → PV → Option PV
  | .int a, .int b => some (.int (a + b))
  | .str a, .str b => if a.length + b.length ≤ lim then some (.str (a ++ b)) else none
  | .tup a, .tup b => if a.length + b.length ≤ lim then some (.tup (a ++ b)) else none
  | .lst a, .lst b => if a.length + b.length ≤ lim then some (.lst (a ++ b)) else none
  | _, _ => none
def pSub : PV → PV → Option PV
  | .int a, .int b => some (.int (a - b))
  | _, _ => none
def small (a : Int) : Bool := decide (a.natAbs.log2 < 9000)
def pMul : PV → PV → Option PV
  | .int a, .int b => if small a && small b then some (.int (a * b)) else none
  | .lst a, .int b => if decide (0 ≤ b) && decide (b < 1000) && decide (a.length < 1000) then some (.lst (List.replicate b.toNat a).flatten) else none
  | .str a, .int b => if decide (0 ≤ b) && decide (b < 1000) && decide (a.length < 1000) then some (.str (List.replicate b.toNat a).flatten) else none
  | _, _ => none
def pDiv : PV → PV → Option PV
  | .int a, .int b => if decide (0 < b) && small b then some (.int (a / b)) else none
  | _, _ => none
def pMod : PV → PV → Option PV
  | .int a, .int b => if decide (0 < b) then some (.int (a % b)) else none
  | _, _ => none
def pPow : PV → PV → Option PV
  | .int a, .int b => if decide (0 ≤ b ∧ b ≤ 1000 ∧ a.natAbs < 2 ^ 64) then some (.int (a ^ b.toNat)) else none
  | _, _ => none
def pNeg : PV → Option PV
  | .int a => some (.int (-a))
  | _ => none
def pLt : PV → PV → Option PV
  | .int a, .int b => some (.bl (decide (a < b)))
  | .str a, .str b => some (.bl (decide (a < b)))
  | _, _ => none
def pLe : PV → PV → Option PV
  | .int a, .int b => some (.bl (decide (a ≤ b)))
  | _, _ => none
def pGt : PV → PV → Option PV
  | .int a, .int b => some (.bl (decide (b < a)))
  | _, _ => none
def pGe : PV → PV → Option PV
  | .int a, .int b => some (.bl (decide (b ≤ a)))
  | _, _ => none
def pEq : PV → PV → Option PV := fun a b => if plain 8 a && plain 8 b then some (.bl (eqv a b)) else none
def pNe : PV → PV → Option PV := fun a b => if plain 8 a && plain 8 b then some (.bl (!eqv a b)) else none
def strs? : List PV → Option (List (List Nat))
  | [] => some []
  | .str s :: r => (strs? r).map fun l => s :: l
  | _ => none
def inStr (c : List Nat) (s : List Nat) : Option Bool := match c with
  | [k] => some (decide (k ∈ s))
  | _ => none
def pIn : PV → PV → Option PV
  | .str c, .str s => (inStr c s).map PV.bl
  | .str c, .tup xs => (strs? xs).map fun l => .bl (l.any fun z => decide (z = c))
  | _, _ => none
def pNotIn : PV → PV → Option PV
  | .str c, .str s => (inStr c s).map fun b => .bl (!b)
  | .str c, .tup xs => (strs? xs).map fun l => .bl (!(l.any fun z => decide (z = c)))
  | _, _ => none
def PV.isNone : PV → Bool
  | .non => true
  | _ => false
def pIsN : PV → PV → Option PV
  | a, .non => some (.bl a.isNone)
  | _, _ => none
def pNotN : PV → PV → Option PV
  | a, .non => some (.bl (!a.isNone))
  | _, _ => none
def nAbs : List PV → Option PV
  | [.int a] => some (.int (if a < 0 then -a else a))
  | _ => none
def nLen : List PV → Option PV
  | [.tup xs] => some (.int xs.length)
  | [.lst xs] => some (.int xs.length)
  | [.scr xs] => some (.int xs.length)
  | [.str s] => if s.length ≤ lim then some (.int s.length) else none
  | _ => none
def nInt : List PV → Option PV
  | [.int a] => some (.int a)
  | [.str [k]] => if decide (48 ≤ k ∧ k ≤ 57) then some (.int ((k : Int) - 48)) else none
  | _ => none
/-- str of a digit -/
def nStr : List PV → Option PV
  | [.int a] => if decide (0 ≤ a ∧ a < 10) then some (.str [a.toNat + 48]) else none
  | _ => none
def nTuple : List PV → Option PV
  | [.tup xs] => some (.tup xs)
  | [.lst xs] => some (.tup xs)
  | _ => none
def pIdx : PV → PV → Option PV
  | .tup xs, .int i => L2.atI xs i
  | .lst xs, .int i => L2.atI xs i
  | .scr ns, .int i => (L2.atI ns i).map PV.int
  | .str s, .int i => if s.length ≤ lim then (L2.atI s i).map fun c => .str [c] else none
  | _, _ => none
def pAddI : PV → PV → Option PV
  | .int a, .int b => some (.int (a + b))
  | _, _ => none
/-- the name of a value's type -/
def tyName : PV → Option String
  | .non => some "NoneType"
  | .bl _ => some "bool"
  | .int _ => some "int"
  | .str _ => some "str"
  | .tup _ => some "tuple"
  | .lst _ => some "list"
  | _ => none
def isaB (t T : String) : Bool := decide (t = T) || (decide (t = "bool") && decide (T = "int"))
def pIsI (Ts : List String) (p : PV) : Option PV := (tyName p).map fun t => .bl (Ts.any (isaB t))
def ints? : List PV → Option (List Int)
  | [] => some []
  | .int s :: r => (ints? r).map fun l => s :: l
  | _ => none
def bls? : List PV → Option (List Bool)
  | [] => some []
  | .bl s :: r => (bls? r).map fun l => s :: l
  | _ => none
def nSum : List PV → Option PV
  | [.lst xs] => (ints? xs).map fun l => .int l.sum
  | _ => none
def nAll : List PV → Option PV
  | [.lst xs] => (bls? xs).map fun l => .bl (l.all id)
  | _ => none
/-- sorted, of pairs of an int and a text: stable, by insertion -/
def pairIS : PV → Option (Int × List Nat)
  | .tup [.int i, .str s] => some (i, s)
  | _ => none
def ltIS (p q : Int × List Nat) : Bool := if p.1 = q.1 then decide (p.2 < q.2) else decide (p.1 < q.1)
def insBy {α : Type} (lt : α → α → Bool) (x : α) : List α → List α
  | [] => [x]
  | y :: ys => if lt y x then y :: insBy lt x ys else x :: y :: ys
def isort {α : Type} (lt : α → α → Bool) : List α → List α
  | [] => []
  | x :: xs => insBy lt x (isort lt xs)
def pairsIS : List PV → Option (List (Int × List Nat))
  | [] => some []
  | x :: xs => (pairIS x).bind fun p => (pairsIS xs).map fun ps => p :: ps
def nSortIS : List PV → Option PV
  | [.lst xs] => (pairsIS xs).map fun l => .lst ((isort ltIS l).map fun p => .tup [.int p.1, .str p.2])
  | _ => none
/-- s.join(..) -/
def joinL (a : List Nat) : List (List Nat) → List Nat
  | [] => []
  | [x] => x
  | x :: y :: r => x ++ a ++ joinL a (y :: r)
def pJoin : PV → PV → Option PV
  | .str a, .lst xs => (strs? xs).bind fun l => if (l.map List.length).sum + l.length * a.length ≤ lim then some (.str (joinL a l)) else none
  | _, _ => none
def eJoin (m n : EM) : EM := fun ρ st => (m ρ st).bind fun p st1 => match p with
  | .str a => (n ρ st1).bind fun q st2 => R.ofOpt (pJoin (.str a) q) st2
  | _ => .bad
/-- a table of texts at a text -/
def tabGet (tab : List (List Nat × List Nat)) (s : List Nat) : Option (List Nat) := (tab.find? fun q => decide (q.1 = s)).map (·.2)
def pTab (tab : List (List Nat × List Nat)) : PV → Option PV
  | .str s => (tabGet tab s).map PV.str
  | _ => none
def eTab (tab : List (List Nat × List Nat)) (m : EM) : EM := eOp1 (pTab tab) m
/-! ### statements -/
def sNil : SM := fun ρ st => .next ρ st
def sSeq (a b : SM) : SM := fun ρ st => match a ρ st with
  | .next ρ1 st1 => b ρ1 st1
  | r => r
def sIf (c : BM) (a b : SM) : SM := fun ρ st => (c ρ st).bindS ρ fun k st1 => if k then a ρ st1 else b ρ st1
def sSet (i : Nat) (m : FM) : SM := fun ρ st => (m ρ st).bindS ρ fun v st1 => .next (ρ.set i v) st1
def sRet (m : FM) : SM := fun ρ st => (m ρ st).bindS ρ fun v st1 => .ret v st1
def sRetN : SM := fun _ st => .ret (.val .non) st
/-- return of a name that holds a list of its own, or a value -/
def sRetV (i : Nat) : SM := fun ρ st => match ρ[i]? with
  | some (.val p) => .ret (.val p) st
  | some (.own xs) => .ret (.own xs) st
  | _ => .bad
def sDrop (m : EM) : SM := fun ρ st => (m ρ st).bindS ρ fun _ st1 => .next ρ st1
def sAsg (m : EM) (g : GM) : SM := fun ρ st => (m ρ st).bindS ρ fun p st1 => match g p ρ st1 with
  | some (ρ2, st2) => .next ρ2 st2
  | none => .bad
/-- a, b = x, y -/
def sPar (i j : Nat) (a b : FM) : SM := fun ρ st => (a ρ st).bindS ρ fun v st1 => (b ρ st1).bindS ρ fun w st2 => .next ((ρ.set i v).set j w) st2
def sPar3 (i j l : Nat) (a b c : FM) : SM := fun ρ st => (a ρ st).bindS ρ fun v st1 => (b ρ st1).bindS ρ fun w st2 => (c ρ st2).bindS ρ fun z st3 => .next (((ρ.set i v).set j w).set l z) st3
/-- a list of its own: frozen, grown -/
def sFrz (i : Nat) : SM := fun ρ st => match ρ[i]? with
  | some (.own xs) => .next (ρ.set i (.val (.lst xs))) st
  | _ => .bad
def sApp (i : Nat) (m : EM) : SM := fun ρ st => match ρ[i]? with
  | some (.own xs) => (m ρ st).bindS ρ fun p st1 => if xs.length < lim then .next (ρ.set i (.own (xs ++ [p]))) st1 else .bad
  | _ => .bad
def sExt (i : Nat) (m : EM) : SM := fun ρ st => match ρ[i]? with
  | some (.own xs) => (m ρ st).bindS ρ fun p st1 => (match p with
    | .lst ys => if xs.length + ys.length ≤ lim then .next (ρ.set i (.own (xs ++ ys))) st1 else .bad
    | _ => .bad)
  | _ => .bad
/-- x[k] = e of such a list -/
def sSetIx (i : Nat) (m k : EM) : SM := fun ρ st => (m ρ st).bindS ρ fun p st1 => match ρ[i]? with
  | some (.own xs) => (k ρ st1).bindS ρ fun q st2 => (match q with
    | .int z => (match L2.ixN xs.length z with
      | some n => .next (ρ.set i (.own (xs.set n p))) st2
      | none => .bad)
    | _ => .bad)
  | _ => .bad
/-- looks at such a list -/
def eOwn (i : Nat) (f : List PV → Option PV) : EM := fun ρ st => match ρ[i]? with
  | some (.own xs) => R.ofOpt (f xs) st
  | _ => .bad
def eOwn1 (i : Nat) (f : List PV → PV → Option PV) (m : EM) : EM := fun ρ st => match ρ[i]? with
  | some (.own xs) => (m ρ st).bind fun p st1 => R.ofOpt (f xs p) st1
  | _ => .bad
/-- slices -/
def cutG {α : Type} (xs : List α) (lo hi : Option Int) : List α := (xs.drop (HT.sIx xs.length 0 lo)).take (HT.sIx xs.length xs.length hi - HT.sIx xs.length 0 lo)
/-- an optional part of a slice -/
abbrev OM := Env → Store → R (Option Int)
def oNone : OM := fun _ st => .ok none st
def oSome (m : EM) : OM := fun ρ st => (m ρ st).bind fun p st1 => match p with
  | .int i => .ok (some i) st1
  | _ => .bad
def pCut : PV → Option Int → Option Int → Option PV
  | .tup xs, lo, hi => some (.tup (cutG xs lo hi))
  | .lst xs, lo, hi => some (.lst (cutG xs lo hi))
  | .str s, lo, hi => if s.length ≤ lim then some (.str (cutG s lo hi)) else none
  | _, _, _ => none
def eCut (m : EM) (lo hi : OM) : EM := fun ρ st => (m ρ st).bind fun p st1 => (lo ρ st1).bind fun l st2 => (hi ρ st2).bind fun h st3 => R.ofOpt (pCut p l h) st3
/-- the same of a list of a name's own: a new list -/
def fCutOwn (i : Nat) (lo hi : OM) : FM := fun ρ st => match ρ[i]? with
  | some (.own xs) => (lo ρ st).bind fun l st2 => (hi ρ st2).bind fun h st3 => .ok (.own (cutG xs l h)) st3
  | _ => .bad
/-- looks at a list of a name's own -/
def eLenOwn (i : Nat) : EM := eOwn i fun xs => some (.int xs.length)
def eIdxOwn (i : Nat) (m : EM) : EM := eOwn1 i (fun xs p => pIdx (.lst xs) p) m
def eTupOwn (i : Nat) : EM := eOwn i fun xs => some (.tup xs)
def fLstOwn (i : Nat) : FM := fun ρ st => match ρ[i]? with
  | some (.own xs) => .ok (.own xs) st
  | _ => .bad
/-- x == [], x != [] of such a list -/
def eEmpOwn (i : Nat) (neg : Bool) : EM := eOwn i fun xs => if plains 7 xs then some (.bl (if neg then !xs.isEmpty else xs.isEmpty)) else none
/-! ### instances -/
def look2 : List Str → List PV → Str → Option PV
  | n :: ns, v :: vs, f => if n = f then some v else look2 ns vs f
  | _, _, _ => none
def put2 : List Str → List PV → Str → PV → List Str × List PV
  | n :: ns, v :: vs, f, p => if n = f then (n :: ns, p :: vs) else let r := put2 ns vs f p; (n :: r.1, v :: r.2)
  | ns, vs, f, p => (ns ++ [f], vs ++ [p])
/-- the attributes of an instance of the class cl: of a value, of the store -/
def insOf (cl : Nat) (p : PV) (st : Store) : Option (List Str × List PV) := match p with
  | .ins c ns vs => if c = cl then some (ns, vs) else none
  | .ref i => (match st[i]? with
    | some (.ins c ns vs) => if c = cl then some (ns, vs) else none
    | _ => none)
  | _ => none
/-- o.f -/
def eAttr (cl : Nat) (f : Str) (m : EM) : EM := fun ρ st => (m ρ st).bind fun p st1 => match insOf cl p st1 with
  | some (ns, vs) => R.ofOpt (look2 ns vs f) st1
  | none => .bad
/-- o.m(..) -/
def fMeth (call : CallT) (id cl : Nat) (f : Str) (o : EM) (ar : AM) : FM := fun ρ st => (o ρ st).bind fun p st1 => match insOf cl p st1 with
  | some (ns, vs) => (match look2 ns vs f with
    | none => (ar ρ st1).bind fun ps st2 => call id (p :: ps) st2
    | some _ => .bad)
  | none => .bad
/-- o.f, a property -/
def fProp (call : CallT) (id cl : Nat) (o : EM) : FM := fun ρ st => (o ρ st).bind fun p st1 => match insOf cl p st1 with
  | some _ => (call id [p] st1).noex
  | none => .bad
/-- an instance that is being made, at a name: self.f, self.f = e -/
def eSelf (cl i : Nat) (f : Str) : EM := fun ρ st => match ρ[i]? with
  | some (.ins c ns vs) => if c = cl then R.ofOpt (look2 ns vs f) st else .bad
  | _ => .bad
def sSelf (cl i : Nat) (f : Str) (m : EM) : SM := fun ρ st => (m ρ st).bindS ρ fun p st1 => match ρ[i]? with
  | some (.ins c ns vs) => if c = cl ∧ ns.length < 100 then .next (ρ.set i (.ins c (put2 ns vs f p).1 (put2 ns vs f p).2)) st1 else .bad
  | _ => .bad
def gSelf (cl i : Nat) (f : Str) : GM := fun p ρ st => match ρ[i]? with
  | some (.ins c ns vs) => if c = cl ∧ ns.length < 100 then some (ρ.set i (.ins c (put2 ns vs f p).1 (put2 ns vs f p).2), st) else none
  | _ => none
/-- an instance of the store: o.f = e, o.f += e, o.f -= e -/
def putAt (st : Store) (cl : Nat) (p : PV) (f : Str) (q : PV) : Option Store := match p with
  | .ref i => (match st[i]? with
    | some (.ins c ns vs) => if c = cl then (if ns.length < 100 then some (st.set i (.ins c (put2 ns vs f q).1 (put2 ns vs f q).2)) else none) else none
    | _ => none)
  | _ => none
def sAttr (cl : Nat) (f : Str) (o m : EM) : SM := fun ρ st => (m ρ st).bindS ρ fun q st1 => (o ρ st1).bindS ρ fun p st2 => match putAt st2 cl p f q with
  | some st3 => .next ρ st3
  | none => .bad
def sAttrAug (g : PV → PV → Option PV) (cl : Nat) (f : Str) (o m : EM) : SM := fun ρ st => (o ρ st).bindS ρ fun p st1 => match insOf cl p st1 with
  | some (ns, vs) => (match look2 ns vs f with
    | some old => (m ρ st1).bindS ρ fun q st2 => (match g old q with
      | some z => (match putAt st2 cl p f z with
        | some st3 => .next ρ st3
        | none => .bad)
      | none => .bad)
    | none => .bad)
  | none => .bad
/-- C(..): a value (rf = false), an object of the store (rf = true). ini: __init__ -/
def fMake (call : CallT) (id : Nat) (rf : Bool) (ar : AM) : FM := fun ρ st => (ar ρ st).bind fun ps st1 => (call id ps st1).bind fun v st2 => match v with
  | .ins c ns vs => if rf then .ok (.val (.ref st2.length)) (st2 ++ [.ins c ns vs]) else .ok (.val (.ins c ns vs)) st2
  | _ => .bad
/-! ### lists of the store -/
/-- a fresh list becomes an object of the store -/
def eNewL (m : FM) : EM := fun ρ st => (m ρ st).bind fun v st1 => match v with
  | .own xs => .ok (.ref st1.length) (st1 ++ [.lst xs])
  | _ => .bad
def lstAt (p : PV) (st : Store) : Option (List PV) := match p with
  | .ref i => (match st[i]? with
    | some (.lst xs) => some xs
    | _ => none)
  | _ => none
/-- an operation that looks at lists of the store -/
def eOp1S (f : PV → Store → Option PV) (m : EM) : EM := fun ρ st => (m ρ st).bind fun p st1 => R.ofOpt (f p st1) st1
def eOp2S (f : PV → PV → Store → Option PV) (m n : EM) : EM := fun ρ st => (m ρ st).bind fun p st1 => (n ρ st1).bind fun q st2 => R.ofOpt (f p q st2) st2
def pIdxS (p q : PV) (st : Store) : Option PV := match p with
  | .ref i => (lstAt (.ref i) st).bind fun xs => pIdx (.lst xs) q
  | p => pIdx p q
def nLenS (p : PV) (st : Store) : Option PV := match p with
  | .ref i => (lstAt (.ref i) st).map fun xs => .int xs.length
  | p => nLen [p]
def pCutS (p : PV) (lo hi : Option Int) (st : Store) : Option PV := match p with
  | .ref i => (lstAt (.ref i) st).map fun xs => .lst (cutG xs lo hi)
  | p => pCut p lo hi
def eCutS (m : EM) (lo hi : OM) : EM := fun ρ st => (m ρ st).bind fun p st1 => (lo ρ st1).bind fun l st2 => (hi ρ st2).bind fun h st3 => R.ofOpt (pCutS p l h st3) st3
/-- list(..): a new list -/
def listOf (p : PV) (st : Store) : Option (List PV) := match p with
  | .ref i => lstAt (.ref i) st
  | .lst xs => some xs
  | .tup xs => some xs
  | _ => none
def fList (m : EM) : FM := fun ρ st => (m ρ st).bind fun p st1 => match listOf p st1 with
  | some xs => .ok (.own xs) st1
  | none => .bad
def putL (st : Store) (p : PV) (xs : List PV) : Option Store := match p with
  | .ref i => some (st.set i (.lst xs))
  | _ => none
/-- o[k] = e -/
def sSetIxL (o m k : EM) : SM := fun ρ st => (m ρ st).bindS ρ fun p st1 => (o ρ st1).bindS ρ fun r st2 => (k ρ st2).bindS ρ fun q st3 => match lstAt r st3, q with
  | some xs, .int z => (match L2.ixN xs.length z with
    | some n => (match putL st3 r (xs.set n p) with
      | some st4 => .next ρ st4
      | none => .bad)
    | none => .bad)
  | _, _ => .bad
/-- o.append(e) -/
def sAppL (o m : EM) : SM := fun ρ st => (o ρ st).bindS ρ fun r st1 => if (lstAt r st1).isSome then (m ρ st1).bindS ρ fun p st2 => (match lstAt r st2 with
  | some xs => if xs.length < lim then (match putL st2 r (xs ++ [p]) with
    | some st3 => .next ρ st3
    | none => .bad) else .bad
  | none => .bad) else .bad
/-- o.pop() -/
def sPopL (o : EM) : SM := fun ρ st => (o ρ st).bindS ρ fun r st1 => match lstAt r st1 with
  | some xs => if xs.length = 0 then .bad else (match putL st1 r xs.dropLast with
    | some st2 => .next ρ st2
    | none => .bad)
  | none => .bad
/-! ### loops -/
def gName (i : Nat) : GM := fun p ρ st => some (ρ.set i (.val p), st)
def gEach : List GM → List PV → Env → Store → Option (Env × Store)
  | [], [], ρ, st => some (ρ, st)
  | g :: gs, p :: ps, ρ, st => (g p ρ st).bind fun z => gEach gs ps z.1 z.2
  | _, _, _, _ => none
def gTup (gs : List GM) : GM := fun p ρ st => match p with
  | .tup ps => gEach gs ps ρ st
  | .wt ps => gEach gs ps ρ st
  | .lst ps => gEach gs ps ρ st
  | _ => none
def forGo (g : GM) (body : SM) : List PV → Env → Store → SR
  | [], ρ, st => .next ρ st
  | x :: xs, ρ, st => match g x ρ st with
    | none => .bad
    | some (ρ1, st1) => match body ρ1 st1 with
      | .next ρ2 st2 => forGo g body xs ρ2 st2
      | .cnt ρ2 st2 => forGo g body xs ρ2 st2
      | .brk ρ2 st2 => .next ρ2 st2
      | r => r
def sFor (m : AM) (g : GM) (body : SM) : SM := fun ρ st => (m ρ st).bindS ρ fun xs st1 => forGo g body xs ρ st1
def whileGo (c : BM) (body : SM) : Nat → Env → Store → SR
  | 0, _, _ => .bad
  | n + 1, ρ, st => (c ρ st).bindS ρ fun k st1 => if k then (match body ρ st1 with
      | .next ρ2 st2 => whileGo c body n ρ2 st2
      | .cnt ρ2 st2 => whileGo c body n ρ2 st2
      | .brk ρ2 st2 => .next ρ2 st2
      | r => r) else .next ρ st1
@[irreducible] def fuel : Nat := 2 ^ 20000
def sWhile (c : BM) (body : SM) : SM := whileGo c body fuel
/-- what is walked -/
def itemsOf : PV → Option (List PV)
  | .tup xs => some xs
  | .lst xs => some xs
  | .str s => some (s.map fun c => .str [c])
  | _ => none
def wItems (m : EM) : AM := fun ρ st => (m ρ st).bind fun p st1 => R.ofOpt (itemsOf p) st1
def big62 (i : Int) : Bool := decide (-(2 ^ 62) ≤ i ∧ i < 2 ^ 62)
def upInts (lo : Int) : Nat → List PV
  | 0 => []
  | n + 1 => .int lo :: upInts (lo + 1) n
def downInts (lo : Int) : Nat → List PV
  | 0 => []
  | n + 1 => .int lo :: downInts (lo - 1) n
def rng1 (p : PV) : Option (List PV) := match p with
  | .int j => if big62 j then some (upInts 0 j.toNat) else none
  | _ => none
def rng2 (p q : PV) : Option (List PV) := match p, q with
  | .int i, .int j => if big62 i && big62 j then some (upInts i (j - i).toNat) else none
  | _, _ => none
def rngDown (p q : PV) : Option (List PV) := match p, q with
  | .int i, .int j => if big62 i && big62 j then some (downInts i (i - j).toNat) else none
  | _, _ => none
def wRng1 (m : EM) : AM := fun ρ st => (m ρ st).bind fun p st1 => R.ofOpt (rng1 p) st1
def wRng2 (m n : EM) : AM := fun ρ st => (m ρ st).bind fun p st1 => (n ρ st1).bind fun q st2 => R.ofOpt (rng2 p q) st2
def wRngD (m n : EM) : AM := fun ρ st => (m ρ st).bind fun p st1 => (n ρ st1).bind fun q st2 => R.ofOpt (rngDown p q) st2
/-- zip of two of a kind -/
def zipPV (xs ys : List PV) : List PV := (xs.zip ys).map fun q => .wt [q.1, q.2]
def zipOf : PV → PV → Option (List PV)
  | .lst xs, .lst ys => some (zipPV xs ys)
  | .tup xs, .tup ys => some (zipPV xs ys)
  | _, _ => none
def wZip (m n : EM) : AM := fun ρ st => (m ρ st).bind fun p st1 => (n ρ st1).bind fun q st2 => R.ofOpt (zipOf p q) st2
/-- a comprehension -/
def lcGo (g : GM) (t : BM) (e : EM) (ρ : Env) : List PV → List PV → Store → R (List PV)
  | [], acc, st => .ok acc st
  | x :: xs, acc, st => match g x ρ st with
    | none => .bad
    | some (ρ1, st1) => (t ρ1 st1).noex.bind fun k st2 => if k then (e ρ1 st2).noex.bind fun p st3 => (if acc.length < lim then lcGo g t e ρ xs (acc ++ [p]) st3 else .bad) else lcGo g t e ρ xs acc st2
def wipeE (ρ : Env) : List Nat → Env
  | [] => ρ
  | v :: vs => (wipeE ρ vs).set v .un
def fLc (w : AM) (own : List Nat) (g : GM) (t : BM) (e : EM) : FM := fun ρ st => (w ρ st).bind fun xs st1 => (lcGo g t e (wipeE ρ own) xs [] st1).bind fun ys st2 => .ok (.own ys) st2
def tYes : BM := fun _ st => .ok true st
/-! ### match, raise, try -/
/-- match m: case strings: block -/
def matchGo : List (List (List Nat) × SM) → List Nat → SM
  | [], _ => fun ρ st => .next ρ st
  | (ps, b) :: r, s => fun ρ st => if ps.any (fun p => decide (p = s)) then b ρ st else matchGo r s ρ st
def sMatch (m : EM) (cs : List (List (List Nat) × SM)) : SM := fun ρ st => (m ρ st).bindS ρ fun p st1 => match p with
  | .str s => matchGo cs s ρ st1
  | _ => .bad
/-- raise C(m), C's __init__ keeping m as f; raise C() -/
def sRaise1 (cl : Nat) (f : Str) (m : EM) : SM := fun ρ st => (m ρ st).bindS ρ fun p st1 => .ex cl [f] [p] ρ st1
def sRaise0 (cl : Nat) : SM := fun ρ st => .ex cl [] [] ρ st
def SR.noex : SR → SR
  | .ex _ _ _ _ _ => .bad
  | r => r
/-- the clauses of a try: which classes, the suite -/
def handleGo : List ((Nat → Option Bool) × SM) → Nat → List Str → List PV → Env → Store → SR
  | [], cl, ns, vs, ρ, st => .ex cl ns vs ρ st
  | (t, n) :: r, cl, ns, vs, ρ, st => match t cl with
    | some true => (n ρ st).noex
    | some false => handleGo r cl ns vs ρ st
    | none => .bad
def sTry (b : SM) (hs : List ((Nat → Option Bool) × SM)) : SM := fun ρ st => match b ρ st with
  | .ex cl ns vs ρ1 st1 => handleGo hs cl ns vs ρ1 st1
  | r => r
/-- try: b, except C as i: k = i.f -/
def sTryAs (b : SM) (t : Nat → Option Bool) (i k : Nat) (f : Str) : SM := fun ρ st => match b ρ st with
  | .ex cl ns vs ρ1 st1 => (match t cl with
    | some true => (match look2 ns vs f with
      | some p => if i < ρ1.length then .next (((ρ1.set i .un).set k (.val p)).set i .un) st1 else .bad
      | none => .bad)
    | some false => .ex cl ns vs ρ1 st1
    | none => .bad)
  | r => r
/-! ### defs -/
structure Fn where
  ps : Nat
  n : Nat
  /-- an __init__ of the class: its self is no argument -/
  ini : Option Nat := none
  body : CallT → SM
def startE (f : Fn) (args : List PV) : Env := match f.ini with
  | none => args.map .val ++ List.replicate (f.n - f.ps) .un
  | some c => .ins c [] [] :: (args.map .val ++ List.replicate (f.n - (f.ps + 1)) .un)
def finish (r : SR) : R SV := match r with
  | .next _ st1 => .ok (.val .non) st1
  | .ret v st1 => .ok v st1
  | .ex c ns vs _ st1 => .ex c ns vs st1
  | _ => .bad
/-- what __init__ made (no return in it) -/
def finishI (r : SR) : R SV := match r with
  | .next ρ st1 => (match (ρ.head? : Option SV) with
    | some (.ins c ns vs) => .ok (.ins c ns vs) st1
    | _ => .bad)
  | .ex c ns vs _ st1 => .ex c ns vs st1
  | _ => .bad
def runFn (T : Nat → Option Fn) : Nat → CallT
  | 0 => fun _ _ _ => .bad
  | k + 1 => fun id args st => match T id with
    | none => .bad
    | some f => if args.length = f.ps then (match f.ini with
      | none => finish (f.body (runFn T k) (startE f args) st)
      | some _ => finishI (f.body (runFn T k) (startE f args) st)) else .bad
end BR
set_option Elab.async false
set_option linter.all false
set_option maxRecDepth 100000
/-! BrB: pure values against the abstract heap; the readings of the combinators. -/
namespace BR
open PySem PySem.Spec PyProof.Rows L2
/-- what does not change through a run: the program, the world, the written part, where the classes stand -/
structure Cn where
  P : Program
  w : World
  K : PySem.W.Frag
  cm : Nat → Option Addr
/-- the ghosts: what is frozen, where the store's objects stand -/
structure Gh where
  fz : Hp
  io : List Addr
mutual
def nkey : PV → Option NestedKey
  | .non => some .none
  | .int i => some (.num i)
  | .str s => some (.text ⟨s.toArray⟩)
  | .tup xs => (nkeys xs).map NestedKey.tup
  | _ => none
def nkeys : List PV → Option (List NestedKey)
  | [] => some []
  | x :: xs => (nkey x).bind fun k => (nkeys xs).map fun ks => k :: ks
end
/-- the key of a dict: a tuple of ints, texts, None and such tuples -/
def kd : PV → Option NestedKey
  | .tup xs => (nkeys xs).bind fun ks => if NestedKey.depthAll ks < 8 then some (.tup ks) else none
  | _ => none
/-- an entry of a dict: the key, where the key's tuple stands, the value -/
abbrev DE := NestedKey × Addr × V
def DEOk (e : DE) (x : NestedKey × Addr × Value) : Prop := e.1 = x.1 ∧ e.2.1 = x.2.1 ∧ RelV e.2.2 x.2.2
/-- a dict with keys that are tuples, by its one object -/
def DOn (P : Program) (w : World) (a : Addr) (es : List DE) (h : Heap) : Prop :=
  (a == sysModules) = false ∧ es.length ≤ sizeLine ∧ (es.map fun e => e.1).Nodup ∧ ∃ xs : List (NestedKey × Addr × Value), Paired DEOk es xs ∧ ∃ o tab ep, h.get? a = some o ∧ o.ExactDict ∧ o.data = .dict tab ep ∧ tab.toList = xs.map (entryOfKey (nestedKind P w))
def DHO (P : Program) (w : World) (a : Addr) (es : List DE) : HO := .ext (DOn P w a es)
/-- a tuple that was made here: it has no attributes of its own -/
abbrev tupO (o : Obj) (vs : List V) : HO := .frz o (.tup vs)
def TupN (fz : Hp) (a : Addr) (vs : List V) : Prop := ∃ o : Obj, fz a = some (tupO o vs) ∧ o.dict = none
mutual
inductive RepV (c : Cn) (G : Gh) : V → PV → Prop
  | non : RepV c G .non .non
  | bl {b : Bool} : RepV c G (.bl b) (.bl b)
  | int {i : Int} : RepV c G (.int i) (.int i)
  | str {s : List Nat} : RepV c G (.str ⟨s.toArray⟩) (.str s)
  | tup {a : Addr} {vs : List V} {ps : List PV} : TupN G.fz a vs → RepVs c G vs ps → RepV c G (.ref a) (.tup ps)
  | wt {a : Addr} {vs : List V} {ps : List PV} : SqT c.K G.fz a vs → RepVs c G vs ps → RepV c G (.ref a) (.wt ps)
  | lst {a : Addr} {vs : List V} {ps : List PV} : G.fz a = some (.lst vs) → RepVs c G vs ps → RepV c G (.ref a) (.lst ps)
  | scr {a : Addr} {ns : List Int} : SqL c.K G.fz a (ns.map V.int) → RepV c G (.ref a) (.scr ns)
  | dct {a : Addr} {es : List DE} {ks vs : List PV} : G.fz a = some (DHO c.P c.w a es) → ks.map kd = es.map (fun e => some e.1) → RepVs c G (es.map fun e => V.ref e.2.1) ks → RepVs c G (es.map fun e => e.2.2) vs → RepV c G (.ref a) (.dct ks vs)
  | ins {a C dx : Addr} {cl : Nat} {fvs : List (Str × V)} {ns : List Str} {vs : List PV} : G.fz a = some (.ins C dx fvs) → c.cm cl = some C → fvs.map (·.1) = ns → RepVs c G (fvs.map (·.2)) vs → RepV c G (.ref a) (.ins cl ns vs)
  | ref {a : Addr} {i : Nat} : G.io[i]? = some a → RepV c G (.ref a) (.ref i)
inductive RepVs (c : Cn) (G : Gh) : List V → List PV → Prop
  | nil : RepVs c G [] []
  | cons {v : V} {p : PV} {vs : List V} {ps : List PV} : RepV c G v p → RepVs c G vs ps → RepVs c G (v :: vs) (p :: ps)
end
/-- more is frozen, more is stored -/
structure GExt (G G' : Gh) : Prop where
  fz : ∀ (a : Addr) (o : HO), G.fz a = some o → G'.fz a = some o
  io : ∀ (i : Nat) (a : Addr), G.io[i]? = some a → G'.io[i]? = some a
theorem GExt.refl (G : Gh) : GExt G G := ⟨fun _ _ h => h, fun _ _ h => h⟩
theorem GExt.trans {G G1 G2 : Gh} (a : GExt G G1) (b : GExt G1 G2) : GExt G G2 := ⟨fun x o h => b.fz x o (a.fz x o h), fun i x h => b.io i x (a.io i x h)⟩
theorem rd_fz {fz fz' : Hp} (e : ∀ a o, fz a = some o → fz' a = some o) {a : Addr} {u : HO} (h : Rd fz a u) : Rd fz' a u := by
  rcases h with h | ⟨o, h⟩
  · exact .inl (e _ _ h)
  · exact .inr ⟨o, e _ _ h⟩
theorem sqT_fz {K : PySem.W.Frag} {fz fz' : Hp} (e : ∀ a o, fz a = some o → fz' a = some o) {a : Addr} {vs : List V} (h : SqT K fz a vs) : SqT K fz' a vs := by
  rcases h with h | h
  · exact .inl (rd_fz e h)
  · exact .inr h
theorem TupN.up {fz fz' : Hp} {a : Addr} {vs : List V} (h : TupN fz a vs) (e : ∀ a o, fz a = some o → fz' a = some o) : TupN fz' a vs := by
  obtain ⟨o, h1, h2⟩ := h
  exact ⟨o, e _ _ h1, h2⟩
theorem TupN.sq {K : PySem.W.Frag} {fz : Hp} {a : Addr} {vs : List V} (h : TupN fz a vs) : SqT K fz a vs := by
  obtain ⟨o, h1, h2⟩ := h
  exact .inl (.inr ⟨o, h1⟩)
theorem sqL_fz {K : PySem.W.Frag} {fz fz' : Hp} (e : ∀ a o, fz a = some o → fz' a = some o) {a : Addr} {vs : List V} (h : SqL K fz a vs) : SqL K fz' a vs := by
  rcases h with h | h
  · exact .inl (rd_fz e h)
  · exact .inr h
mutual
theorem RepV.mono {c : Cn} {G G' : Gh} (e : GExt G G') : ∀ (p : PV) (v : V), RepV c G v p → RepV c G' v p
  | .non, _, h => by cases h; exact .non
  | .bl _, _, h => by cases h; exact .bl
  | .int _, _, h => by cases h; exact .int
  | .str _, _, h => by cases h; exact .str
  | .tup ps, _, h => by
    cases h with
    | tup h1 h2 => exact .tup (h1.up e.fz) (RepVs.mono e ps _ h2)
  | .wt ps, _, h => by
    cases h with
    | wt h1 h2 => exact .wt (sqT_fz e.fz h1) (RepVs.mono e ps _ h2)
  | .lst ps, _, h => by
    cases h with
    | lst h1 h2 => exact .lst (e.fz _ _ h1) (RepVs.mono e ps _ h2)
  | .scr _, _, h => by
    cases h with
    | scr h1 => exact .scr (sqL_fz e.fz h1)
  | .dct ks vs, _, h => by
    cases h with
    | dct h1 h2 h3 h4 => exact .dct (e.fz _ _ h1) h2 (RepVs.mono e ks _ h3) (RepVs.mono e vs _ h4)
  | .ins _ _ vs, _, h => by
    cases h with
    | ins h1 h2 h3 h4 => exact .ins (e.fz _ _ h1) h2 h3 (RepVs.mono e vs _ h4)
  | .ref _, _, h => by
    cases h with
    | ref h1 => exact .ref (e.io _ _ h1)
theorem RepVs.mono {c : Cn} {G G' : Gh} (e : GExt G G') : ∀ (ps : List PV) (vs : List V), RepVs c G vs ps → RepVs c G' vs ps
  | [], _, h => by cases h; exact .nil
  | p :: ps, _, h => by
    cases h with
    | cons h1 h2 => exact .cons (RepV.mono e p _ h1) (RepVs.mono e ps _ h2)
end
theorem RepV.up {c : Cn} {G G' : Gh} {v : V} {p : PV} (h : RepV c G v p) (e : GExt G G') : RepV c G' v p := RepV.mono e p v h
theorem RepVs.up {c : Cn} {G G' : Gh} {vs : List V} {ps : List PV} (h : RepVs c G vs ps) (e : GExt G G') : RepVs c G' vs ps := RepVs.mono e ps vs h
theorem RepVs.len {c : Cn} {G : Gh} : ∀ {vs : List V} {ps : List PV}, RepVs c G vs ps → vs.length = ps.length
  | _, _, .nil => rfl
  | _, _, .cons _ t => by simp [RepVs.len t]
theorem RepVs.get {c : Cn} {G : Gh} : ∀ {vs : List V} {ps : List PV} {i : Nat} {p : PV}, RepVs c G vs ps → ps[i]? = some p → ∃ v, vs[i]? = some v ∧ RepV c G v p
  | _, _, _, _, .nil, e => by simp at e
  | _, _, 0, _, .cons r _, e => by simp at e; subst e; exact ⟨_, rfl, r⟩
  | _, _, i + 1, _, .cons _ t, e => by
    obtain ⟨v, h1, h2⟩ := RepVs.get (i := i) t (by simpa using e)
    exact ⟨v, by simpa using h1, h2⟩
theorem RepVs.getV {c : Cn} {G : Gh} : ∀ {vs : List V} {ps : List PV} {i : Nat} {v : V}, RepVs c G vs ps → vs[i]? = some v → ∃ p, ps[i]? = some p ∧ RepV c G v p
  | _, _, _, _, .nil, e => by simp at e
  | _, _, 0, _, .cons r _, e => by simp at e; subst e; exact ⟨_, rfl, r⟩
  | _, _, i + 1, _, .cons _ t, e => by
    obtain ⟨p, h1, h2⟩ := RepVs.getV (i := i) t (by simpa using e)
    exact ⟨p, by simpa using h1, h2⟩
theorem RepVs.app {c : Cn} {G : Gh} : ∀ {vs ws : List V} {ps qs : List PV}, RepVs c G vs ps → RepVs c G ws qs → RepVs c G (vs ++ ws) (ps ++ qs)
  | _, _, _, _, .nil, s => s
  | _, _, _, _, .cons r t, s => .cons r (RepVs.app t s)
theorem RepVs.setN {c : Cn} {G : Gh} {v : V} {p : PV} (r : RepV c G v p) : ∀ {vs : List V} {ps : List PV} (i : Nat), RepVs c G vs ps → RepVs c G (vs.set i v) (ps.set i p)
  | _, _, _, .nil => .nil
  | _, _, 0, .cons _ t => .cons r t
  | _, _, i + 1, .cons q t => .cons q (RepVs.setN r i t)
/-! ### a step of the heap, as whoever called sees it -/
structure Stp (G : Gh) (H : Hp) (G' : Gh) (H' : Hp) : Prop extends GExt G G' where
  keep : ∀ (a : Addr) (o : HO), H a = some o → a ∉ G.io → H' a = some o
  live : ∀ (a : Addr) (o : HO), H a = some o → ∃ o', H' a = some o'
  nfz : ∀ (a : Addr) (o : HO), H a = some o → G.fz a = none → G'.fz a = none
  nio : ∀ (a : Addr) (o : HO), H a = some o → a ∉ G.io → a ∉ G'.io
theorem Stp.refl (G : Gh) (H : Hp) : Stp G H G H := ⟨.refl G, fun _ _ h _ => h, fun _ o h => ⟨o, h⟩, fun _ _ _ h => h, fun _ _ _ h => h⟩
theorem Stp.trans {G G1 G2 : Gh} {H H1 H2 : Hp} (a : Stp G H G1 H1) (b : Stp G1 H1 G2 H2) : Stp G H G2 H2 where
  toGExt := a.toGExt.trans b.toGExt
  keep := fun x o h n => b.keep x o (a.keep x o h n) (a.nio x o h n)
  live := fun x o h => let ⟨o1, h1⟩ := a.live x o h; b.live x o1 h1
  nfz := fun x o h n => let ⟨o1, h1⟩ := a.live x o h; b.nfz x o1 h1 (a.nfz x o h n)
  nio := fun x o h n => b.nio x o (a.keep x o h n) (a.nio x o h n)
theorem Stp.free {G G' : Gh} {H H' : Hp} (s : Stp G H G' H') {a : Addr} (h : H' a = none) : H a = none := by
  cases e : H a with
  | none => rfl
  | some o =>
    obtain ⟨o', q⟩ := s.live a o e
    rw [h] at q
    cases q
def SObj (c : Cn) (G : Gh) (H : Hp) (a : Addr) : SO → Prop
  | .lst ps => ∃ vs, H a = some (.lst vs) ∧ RepVs c G vs ps
  | .ins cl ns ps => ∃ C dx fvs, H a = some (.ins C dx fvs) ∧ c.cm cl = some C ∧ fvs.map (·.1) = ns ∧ RepVs c G (fvs.map (·.2)) ps
/-- the store -/
structure SRel (c : Cn) (H : Hp) (st : Store) (G : Gh) : Prop where
  fzH : ∀ (a : Addr) (o : HO), G.fz a = some o → H a = some o
  nd : ∀ (i j : Nat) (a : Addr), G.io[i]? = some a → G.io[j]? = some a → i = j
  iofz : ∀ a ∈ G.io, G.fz a = none
  len : G.io.length = st.length
  obj : ∀ (i : Nat) (a : Addr) (o : SO), G.io[i]? = some a → st[i]? = some o → SObj c G H a o
/-- the entry of the def that runs: its ghosts, its heap (without an instance that is being made) -/
structure Bs where
  G : Gh
  H : Hp
  self : Option Addr := none
def SlotOk (c : Cn) (B : Bs) (G : Gh) (H : Hp) (x : Option V) : SV → Prop
  | .un => True
  | .val p => ∃ v, x = some v ∧ RepV c G v p
  | .own ps => ∃ a vs, x = some (.ref a) ∧ H a = some (.lst vs) ∧ RepVs c G vs ps ∧ G.fz a = none ∧ a ∉ G.io ∧ B.H a = none
  | .ins cl ns ps => ∃ a C dx fvs, x = some (.ref a) ∧ B.self = some a ∧ H a = some (.ins C dx fvs) ∧ c.cm cl = some C ∧ fvs.map (·.1) = ns ∧ RepVs c G (fvs.map (·.2)) ps ∧ G.fz a = none ∧ a ∉ G.io ∧ B.H a = none
def SV.isOwn : SV → Bool
  | .own _ => true
  | .ins _ _ _ => true
  | _ => false
structure Rel (c : Cn) (B : Bs) (σ : L2.St) (ρ : Env) (H : Hp) (st : Store) (G : Gh) : Prop extends SRel c H st G where
  base : Stp B.G B.H G H
  len2 : ρ.length = σ.length
  slot : ∀ (i : Nat) (sv : SV) (x : Option V), ρ[i]? = some sv → σ[i]? = some x → SlotOk c B G H x sv
  dist : ∀ (i j : Nat) (sv sw : SV) (a : Addr), ρ[i]? = some sv → ρ[j]? = some sw → sv.isOwn = true → sw.isOwn = true → σ[i]? = some (some (.ref a)) → σ[j]? = some (some (.ref a)) → i = j
section
variable {c : Cn} {B : Bs} {σ : L2.St} {ρ : Env} {H H' : Hp} {st st' : Store} {G G' : Gh}
theorem SlotOk.step {x : Option V} {sv : SV} (s : Stp G H G' H') (h : SlotOk c B G H x sv) : SlotOk c B G' H' x sv := by
  cases sv with
  | un => trivial
  | val p =>
    obtain ⟨v, e, r⟩ := h
    exact ⟨v, e, r.up s.toGExt⟩
  | own ps =>
    obtain ⟨a, vs, e, ha, r, n1, n2, n3⟩ := h
    exact ⟨a, vs, e, s.keep _ _ ha n2, r.up s.toGExt, s.nfz _ _ ha n1, s.nio _ _ ha n2, n3⟩
  | ins cl ns ps =>
    obtain ⟨a, C, dx, fvs, e, es, ha, hc, hn, r, n1, n2, n3⟩ := h
    exact ⟨a, C, dx, fvs, e, es, s.keep _ _ ha n2, hc, hn, r.up s.toGExt, s.nfz _ _ ha n1, s.nio _ _ ha n2, n3⟩
theorem Rel.step (R : Rel c B σ ρ H st G) (s : Stp G H G' H') (S : SRel c H' st' G') : Rel c B σ ρ H' st' G' :=
  ⟨S, R.base.trans s, R.len2, fun i sv x h1 h2 => (R.slot i sv x h1 h2).step s, R.dist⟩
theorem Rel.srel (R : Rel c B σ ρ H st G) : SRel c H st G := R.toSRel
/-- a new object, frozen at once -/
theorem SRel.freeze {p : Addr} {o : HO} (S : SRel c H st G) (hp : H p = none) : SRel c (upd H p o) st ⟨upd G.fz p o, G.io⟩ ∧ Stp G H ⟨upd G.fz p o, G.io⟩ (upd H p o) := by
  have nio : p ∉ G.io := fun hm => by
    obtain ⟨i, hi, e⟩ := List.mem_iff_getElem.mp hm
    have e1 : G.io[i]? = some p := by rw [List.getElem?_eq_getElem hi, e]
    have hl : i < st.length := by rw [← S.len]; exact hi
    have q := S.obj i p st[i] e1 (List.getElem?_eq_getElem hl)
    cases hs : st[i] with
    | lst ps => rw [hs] at q; obtain ⟨vs, z, _⟩ := q; rw [hp] at z; cases z
    | ins a b d => rw [hs] at q; obtain ⟨_, _, _, z, _⟩ := q; rw [hp] at z; cases z
  have hfz : G.fz p = none := by
    cases e : G.fz p with
    | none => rfl
    | some o' => have := S.fzH _ _ e; rw [hp] at this; cases this
  have ext : GExt G ⟨upd G.fz p o, G.io⟩ := ⟨fun a u h => by
    show upd G.fz p o a = some u
    rw [upd_ne (ne_of_none h hfz)]; exact h, fun _ _ h => h⟩
  refine ⟨⟨fun a u h => ?_, S.nd, fun a ha => ?_, S.len, fun i a u h1 h2 => ?_⟩, ⟨ext, fun a u h _ => by rw [upd_ne (ne_of_none h hp)]; exact h, fun a u h => ⟨u, by rw [upd_ne (ne_of_none h hp)]; exact h⟩, fun a u h n => ?_, fun a u h n => n⟩⟩
  · by_cases e : a = p
    · subst e
      have h' : upd G.fz a o a = some u := h
      rw [upd_same] at h' ⊢; exact h'
    · have h' : upd G.fz p o a = some u := h
      rw [upd_ne e] at h' ⊢
      exact S.fzH _ _ h'
  · show upd G.fz p o a = none
    rw [upd_ne (show a ≠ p from fun e => nio (by rw [← e]; exact ha))]
    exact S.iofz a ha
  · have hap : a ≠ p := fun e => nio (e ▸ List.mem_of_getElem? h1)
    have q := S.obj i a u h1 h2
    cases u with
    | lst ps =>
      obtain ⟨vs, z, r⟩ := q
      exact ⟨vs, by rw [upd_ne hap]; exact z, r.up ext⟩
    | ins cl ns ps =>
      obtain ⟨C, dx, fvs, z, hc, hn, r⟩ := q
      exact ⟨C, dx, fvs, by rw [upd_ne hap]; exact z, hc, hn, r.up ext⟩
  · show upd G.fz p o a = none
    rw [upd_ne (ne_of_none h hp)]
    exact n
theorem SRel.notIo {p : Addr} (S : SRel c H st G) (hp : H p = none) : p ∉ G.io := fun hm => by
  obtain ⟨i, hi, e⟩ := List.mem_iff_getElem.mp hm
  have e1 : G.io[i]? = some p := by rw [List.getElem?_eq_getElem hi, e]
  have hl : i < st.length := by rw [← S.len]; exact hi
  have q := S.obj i p st[i] e1 (List.getElem?_eq_getElem hl)
  cases hs : st[i] with
  | lst ps => rw [hs] at q; obtain ⟨vs, z, _⟩ := q; rw [hp] at z; cases z
  | ins a b d => rw [hs] at q; obtain ⟨_, _, _, z, _⟩ := q; rw [hp] at z; cases z
theorem SRel.notFz {p : Addr} (S : SRel c H st G) (hp : H p = none) : G.fz p = none := by
  cases e : G.fz p with
  | none => rfl
  | some o' => have := S.fzH _ _ e; rw [hp] at this; cases this
/-- a new object that is not told -/
theorem SRel.fresh {p : Addr} {o : HO} (S : SRel c H st G) (hp : H p = none) : SRel c (upd H p o) st G ∧ Stp G H G (upd H p o) := by
  have nio := S.notIo hp
  have hfz := S.notFz hp
  refine ⟨⟨fun a u h => by rw [upd_ne (ne_of_none h hfz)]; exact S.fzH a u h, S.nd, S.iofz, S.len, fun i a u h1 h2 => ?_⟩, ⟨.refl G, fun a u h _ => by rw [upd_ne (ne_of_none h hp)]; exact h, fun a u h => ⟨u, by rw [upd_ne (ne_of_none h hp)]; exact h⟩, fun a u h n => n, fun a u h n => n⟩⟩
  have hap : a ≠ p := fun e => nio (e ▸ List.mem_of_getElem? h1)
  have q := S.obj i a u h1 h2
  cases u with
  | lst ps =>
    obtain ⟨vs, z, r⟩ := q
    exact ⟨vs, by rw [upd_ne hap]; exact z, r⟩
  | ins cl ns ps =>
    obtain ⟨C, dx, fvs, z, hc, hn, r⟩ := q
    exact ⟨C, dx, fvs, by rw [upd_ne hap]; exact z, hc, hn, r⟩
end
/-! ### results -/
/-- an exception's own dict -/
def ERep (c : Cn) (G : Gh) (H : Hp) (cl : Nat) (ns : List Str) (vs : List PV) (cls : Value) (d : Option Addr) : Prop :=
  ∃ C, c.cm cl = some C ∧ cls = .ref C ∧ match d with
    | none => ns = [] ∧ vs = []
    | some dx => ∃ fvs : List (Str × V), H dx = some (.xd fvs) ∧ fvs.map (·.1) = ns ∧ RepVs c G (fvs.map (·.2)) vs
def Out {α β : Type} (c : Cn) (rep : Hp → Gh → Hp → β → α → Prop) (G : Gh) (H : Hp) (Q : β → Hp → Prop) (E : XK) : R α → Prop
  | .ok a st => ∀ (H' : Hp) (G' : Gh) (x : β), Stp G H G' H' → SRel c H' st G' → rep H G' H' x a → Q x H'
  | .ex cl ns vs st => ∀ (H' : Hp) (G' : Gh) (cls : Value) (d : Option Addr), Stp G H G' H' → SRel c H' st G' → ERep c G' H' cl ns vs cls d → E cls d H'
  | .bad => False
abbrev rpE (c : Cn) : Hp → Gh → Hp → V → PV → Prop := fun _ G' _ v p => RepV c G' v p
def rpF (c : Cn) : Hp → Gh → Hp → V → SV → Prop := fun H G' H' v sv => match sv with
  | .un => False
  | .val p => RepV c G' v p
  | .own ps => ∃ a vs, v = .ref a ∧ H' a = some (.lst vs) ∧ RepVs c G' vs ps ∧ G'.fz a = none ∧ a ∉ G'.io ∧ H a = none
  | .ins _ _ _ => False
abbrev rpA (c : Cn) : Hp → Gh → Hp → List V → List PV → Prop := fun _ G' _ vs ps => RepVs c G' vs ps
abbrev rpB : Hp → Gh → Hp → Bool → Bool → Prop := fun _ _ _ b k => b = k
/-- a representation that stands when one looks from earlier -/
def Early {α β : Type} (rep : Hp → Gh → Hp → β → α → Prop) : Prop := ∀ (H H1 : Hp) (G' : Gh) (H' : Hp) (x : β) (a : α), (∀ b, H1 b = none → H b = none) → rep H1 G' H' x a → rep H G' H' x a
theorem early_E {c : Cn} : Early (rpE c) := fun _ _ _ _ _ _ _ h => h
theorem early_A {c : Cn} : Early (rpA c) := fun _ _ _ _ _ _ _ h => h
theorem early_B : Early rpB := fun _ _ _ _ _ _ _ h => h
theorem early_F {c : Cn} : Early (rpF c) := fun H H1 G' H' x a e h => by
  cases a with
  | un => exact h
  | val p => exact h
  | ins _ _ _ => exact h
  | own ps =>
    obtain ⟨b, vs, e1, e2, e3, e4, e5, e6⟩ := h
    exact ⟨b, vs, e1, e2, e3, e4, e5, e _ e6⟩
theorem Out.later {α β : Type} {c : Cn} {rep : Hp → Gh → Hp → β → α → Prop} (er : Early rep) {G G1 : Gh} {H H1 : Hp} {Q : β → Hp → Prop} {E : XK} {r : R α} (s : Stp G H G1 H1) (h : Out c rep G H Q E r) : Out c rep G1 H1 Q E r := by
  cases r with
  | ok a st => exact fun H' G' x s1 S rp => h H' G' x (s.trans s1) S (er _ _ _ _ _ _ (fun b z => s.free z) rp)
  | ex cl ns vs st => exact fun H' G' cls d s1 S rp => h H' G' cls d (s.trans s1) S rp
  | bad => exact h
theorem Out.imp {α β : Type} {c : Cn} {rep : Hp → Gh → Hp → β → α → Prop} {G : Gh} {H : Hp} {Q Q' : β → Hp → Prop} {E : XK} {r : R α} (hq : ∀ x H', Q x H' → Q' x H') (h : Out c rep G H Q E r) : Out c rep G H Q' E r := by
  cases r with
  | ok a st => exact fun H' G' x s1 S rp => hq _ _ (h H' G' x s1 S rp)
  | ex cl ns vs st => exact h
  | bad => exact h
/-- one part after another -/
theorem Out.bind {α β γ δ : Type} {c : Cn} {rep : Hp → Gh → Hp → β → α → Prop} {rep2 : Hp → Gh → Hp → δ → γ → Prop} (er : Early rep2) {G : Gh} {H : Hp} {Q : δ → Hp → Prop} {Q1 : β → Hp → Prop} {E : XK} {r : R α} {f : α → Store → R γ}
    (h : Out c rep2 G H Q E (r.bind f))
    (k : ∀ a st1 H1 G1 x, Stp G H G1 H1 → SRel c H1 st1 G1 → rep H G1 H1 x a → Out c rep2 G1 H1 Q E (f a st1) → Q1 x H1) : Out c rep G H Q1 E r := by
  cases r with
  | ok a st => exact fun H1 G1 x s S rp => k a st H1 G1 x s S rp (Out.later er s h)
  | ex cl ns vs st => exact h
  | bad => exact h
/-! ### readings -/
section
variable (c : Cn) (W : WX)
def tE (m : EM) : TE := fun σ H Q => ∃ B ρ st G, Rel c B σ ρ H st G ∧ Out c (rpE c) G H Q (fun cls d H' => W cls d σ H') (m ρ st)
def tF (m : FM) : TE := fun σ H Q => ∃ B ρ st G, Rel c B σ ρ H st G ∧ Out c (rpF c) G H Q (fun cls d H' => W cls d σ H') (m ρ st)
def tA (m : AM) : TA := fun σ H Q => ∃ B ρ st G, Rel c B σ ρ H st G ∧ Out c (rpA c) G H Q (fun cls d H' => W cls d σ H') (m ρ st)
def tT (m : BM) : TT := fun σ H Q => ∃ B ρ st G, Rel c B σ ρ H st G ∧ Out c rpB G H Q (fun cls d H' => W cls d σ H') (m ρ st)
/-- behind a statement -/
def OutS (B : Bs) (D : Ends) (G : Gh) : SR → Prop
  | .next ρ st => ∀ σ H G', GExt G G' → Rel c B σ ρ H st G' → D.nx σ H
  | .brk ρ st => ∀ σ H G', GExt G G' → Rel c B σ ρ H st G' → D.bk σ H
  | .cnt ρ st => ∀ σ H G', GExt G G' → Rel c B σ ρ H st G' → D.ct σ H
  | .ret sv st => ∀ H G' x, GExt G G' → SRel c H st G' → Stp B.G B.H G' H → rpF c B.H G' H x sv → D.rt x H
  | .ex cl ns vs ρ st => ∀ σ H G' cls d, GExt G G' → Rel c B σ ρ H st G' → ERep c G' H cl ns vs cls d → W cls d σ H
  | .bad => False
def tS (m : SM) : TS := fun D σ H => ∃ B ρ st G, Rel c B σ ρ H st G ∧ OutS c W B D G (m ρ st)
end
theorem OutS.later {c : Cn} {W : WX} {B : Bs} {D : Ends} {G G1 : Gh} {r : SR} (e : GExt G G1) (h : OutS c W B D G r) : OutS c W B D G1 r := by
  cases r with
  | next ρ st => exact fun σ H G' e1 => h σ H G' (e.trans e1)
  | brk ρ st => exact fun σ H G' e1 => h σ H G' (e.trans e1)
  | cnt ρ st => exact fun σ H G' e1 => h σ H G' (e.trans e1)
  | ret sv st => exact fun H G' x e1 => h H G' x (e.trans e1)
  | ex cl ns vs ρ st => exact fun σ H G' cls d e1 => h σ H G' cls d (e.trans e1)
  | bad => exact h
/-- an expression, a fresh value, arguments, a test, a statement, a block: read by the combinator -/
def cnOf (X : Cx) (cm : Nat → Option Addr) : Cn := ⟨X.prog, X.w, X.K, cm⟩
section
variable (cm : Nat → Option Addr) (X : Cx) (W : WX)
def CE (m : EM) (e : Expr) : Prop := PE X e (tE (cnOf X cm) W m)
def CF (m : FM) (e : Expr) : Prop := PE X e (tF (cnOf X cm) W m)
def CA (m : AM) (es : List Expr) : Prop := PA X es (tA (cnOf X cm) W m)
def CT (m : BM) (e : Expr) : Prop := PT X e (tT (cnOf X cm) W m)
def CS (m : SM) (s : Stmt) : Prop := PS X s (tS (cnOf X cm) W m)
def CSs (m : SM) (s : List Stmt) : Prop := PSs X s (tS (cnOf X cm) W m)
end
theorem PE.weak {X : Cx} {e : Expr} {t t' : TE} (h : PE X e t) (w : ∀ σ H Q, t' σ H Q → t σ H Q) : PE X e t' := ⟨fun pins s σ H Q I q => h.run pins s σ H Q I (w σ H Q q)⟩
theorem PT.weak {X : Cx} {e : Expr} {t t' : TT} (h : PT X e t) (w : ∀ σ H Q, t' σ H Q → t σ H Q) : PT X e t' := ⟨fun pins s σ H Q I q => h.run pins s σ H Q I (w σ H Q q)⟩
theorem PA.weak {X : Cx} {e : List Expr} {t t' : TA} (h : PA X e t) (w : ∀ σ H Q, t' σ H Q → t σ H Q) : PA X e t' := ⟨fun pos pins s σ H Q I q => h.run pos pins s σ H Q I (w σ H Q q)⟩
theorem PS.weak {X : Cx} {e : Stmt} {t t' : TS} (h : PS X e t) (w : ∀ D σ H, t' D σ H → t D σ H) : PS X e t' := ⟨fun pins s σ H D I q => h.run pins s σ H D I (w D σ H q)⟩
theorem PSs.weak {X : Cx} {e : List Stmt} {t t' : TS} (h : PSs X e t) (w : ∀ D σ H, t' D σ H → t D σ H) : PSs X e t' := ⟨fun pins s σ H D I q => h.run pins s σ H D I (w D σ H q)⟩
end BR
set_option Elab.async false
set_option linter.all false
set_option maxRecDepth 100000
/-! BrC: names, constants, operators, comparisons, tests, displays, built-ins, simple statements. -/
namespace BR
open PySem PySem.Spec PyProof.Rows L2
/-! ### tuples that are made -/
section
variable {X : Cx} {es : List Expr} {pos : Pos} {t : TA}
theorem tupO_ok {P : Program} {w : World} {H : Hp} {h : Heap} {a : Addr} {its : List Value} {vs : List V} (hz : vs.length ≤ sizeLine) (r : Vals vs its) (e : h.get? a = some { cls := .type "tuple", data := .seq its.toArray }) : ObjOk P w H h a (tupO { cls := .type "tuple", data := .seq its.toArray } vs) :=
  ⟨e, hz, its, r, _, e, rfl, 0, rfl⟩
def tTupN (t : TA) : TE := fun σ H Q => t σ H fun xs H1 => xs.length ≤ sizeLine ∧ ∀ p o, H1 p = none → o.dict = none → Q (.ref p) (upd H1 p (tupO o xs))
theorem pe_tupN {x1} (h : PA X es t) : PE X (.Tuple es x1 pos) (tTupN t) := by
  refine ⟨fun pins s σ H Q I hq => wpAny_Tuple_spliced (thn (h.run pos pins s σ H _ I hq) fun us s1 q0 => ?_)⟩
  obtain ⟨xs, H1, I1, r, z, q⟩ := q0
  exact ⟨by rw [← r.length]; exact z, .ref s1.heap.objs.size, _, I1.laid (t' := s1.toks) (fun b u e => Heap.get?_push_of_some _ e) (Nat.le_refl _) (tupO_ok z r (Heap.get?_push_size _ rfl)), rfl, q _ _ (I1.hok.fresh (Nat.le_refl _)) rfl⟩
def rCatN (K : PySem.W.Frag) : R2 := fun x y H Q => ∃ a b xs ys, x = .ref a ∧ y = .ref b ∧ SqT K H a xs ∧ SqT K H b ys ∧ xs.length + ys.length ≤ sizeLine ∧
  (xs = [] → Q (.ref b) H) ∧ (xs ≠ [] → ys = [] → Q (.ref a) H) ∧ (xs ≠ [] → ys ≠ [] → ∀ p o, H p = none → o.dict = none → Q (.ref p) (upd H p (tupO o (xs ++ ys))))
theorem op_catN : OpR X (binaryOp .Add) (rCatN X.K) := by
  intro pins s σ H x y v u Q I rx ry h
  obtain ⟨a, b, xs, ys, rfl, rfl, ha, hb, hz, q0, q1, q2⟩ := h
  cases rx
  cases ry
  obtain ⟨its, r1, p1, _⟩ := I.tuple ha
  obtain ⟨its2, r2, p2, _⟩ := I.tuple hb
  by_cases hx : xs = []
  · have e : its = [] := r1.nil_iff.mpr hx
    rw [e] at p1
    exact cat_tup0 p1 p2 ⟨.ref b, H, I, rfl, q0 hx⟩
  · refine HT.cat_tup p1 p2 (fun z => hx (r1.nil_iff.mp z)) (fun z => ⟨.ref a, H, I, rfl, q1 hx (r2.nil_iff.mp z)⟩) (fun z => ?_) (by rw [← r1.length, ← r2.length]; exact hz)
    exact ⟨.ref s.heap.objs.size, _, I.laid (t' := s.toks) (fun b ob q => Heap.get?_push_of_some _ q) (Nat.le_refl _) (tupO_ok (by rw [List.length_append]; exact hz) (r1.append r2) (Heap.get?_push_size _ rfl)), rfl, q2 hx (fun w => z (r2.nil_iff.mpr w)) _ _ (I.hok.fresh (Nat.le_refl _)) rfl⟩
def rSlN (K : PySem.W.Frag) : V → Option Int → Option Int → Hp → VK → Prop := fun x lo hi H Q => ∃ a xs, x = .ref a ∧ SqT K H a xs ∧
  (HT.sIx xs.length 0 lo = 0 ∧ HT.sIx xs.length xs.length hi = xs.length → Q (.ref a) H) ∧ (¬ (HT.sIx xs.length 0 lo = 0 ∧ HT.sIx xs.length xs.length hi = xs.length) → ∀ p o, H p = none → o.dict = none → Q (.ref p) (upd H p (tupO o (cutV xs lo hi))))
theorem sl_tupN : SlR X (rSlN X.K) := by
  intro pins s σ H x v vl vu lo hi sl Q I rx hs pl pu h
  obtain ⟨a, xs, rfl, hx, q1, q2⟩ := h
  cases rx
  obtain ⟨its, r, ht, hz⟩ := I.tuple hx
  have hlen : its.toArray.size = xs.length := by rw [List.size_toArray]; exact r.length.symm
  refine ⟨"tuple", _, PyProof.Rows.slot_tuple_getitem.lookup, ht.typeIs, ?_⟩
  by_cases hw : HT.sIx xs.length 0 lo = 0 ∧ HT.sIx xs.length xs.length hi = xs.length
  · exact getItem_tuple_whole ht hs pl pu (by rw [hlen]; exact hw) ⟨.ref a, H, I, rfl, q1 hw⟩
  · refine HT.getItem_tuple_cut ht hs pl pu (by rw [hlen]; exact hw) ?_ (by rw [hlen]; exact hz)
    rw [hlen]
    exact ⟨.ref s.heap.objs.size, _, I.laid (t' := s.toks) (fun b ob q => Heap.get?_push_of_some _ q) (Nat.le_refl _)
      (tupO_ok (Nat.le_trans (cutV_length xs lo hi) hz) ((r.drop (HT.sIx xs.length 0 lo)).take (HT.sIx xs.length xs.length hi - HT.sIx xs.length 0 lo)) (Heap.get?_push_size _ rfl)), rfl, q2 hw _ _ (I.hok.fresh (Nat.le_refl _)) rfl⟩
def rTupN (K : PySem.W.Frag) : List V → Hp → VK → Prop := fun xs H Q => ∃ p ys, xs = [.ref p] ∧ ((SqL K H p ys ∧ ∀ l o, H l = none → o.dict = none → Q (.ref l) (upd H l (tupO o ys))) ∨ (SqT K H p ys ∧ Q (.ref p) H))
theorem call_tupleN : CallR X (.type "tuple") (rTupN X.K) := by
  intro pins s σ H xs us Q I r h
  obtain ⟨p, ys, rfl, h⟩ := h
  obtain ⟨u, rfl, rx⟩ := vals1 r
  cases rx
  rcases h with ⟨hq, q⟩ | ⟨hq, q⟩
  · obtain ⟨its, r', pl, hz⟩ := I.list hq
    have hlen := r'.length
    refine call_tuple_list pl.isList (fun h' kp => ?_) (by simp only [List.size_toArray] <;> omega)
    have I1 : Inv X pins σ H { s with heap := h' } := I.kept (t' := s.toks) kp
    exact ⟨.ref h'.objs.size, _, I1.laid (t' := s.toks) (fun b o e => Heap.get?_push_of_some _ e) (Nat.le_refl _) (tupO_ok hz r' (Heap.get?_push_size _ rfl)), rfl, q _ _ (I1.hok.fresh (Nat.le_refl _)) rfl⟩
  · obtain ⟨its, _, p1, _⟩ := I.tuple hq
    exact call_tuple_same (items := its.toArray) p1 ⟨.ref p, H, I, rfl, q⟩
end
section
variable {c : Cn} {B : Bs} {σ : L2.St} {ρ : Env} {H H1 : Hp} {st st1 : Store} {G G1 : Gh} {W : WX}
theorem OutS.bind {α β : Type} {rep : Hp → Gh → Hp → β → α → Prop} {D : Ends} {Q1 : β → Hp → Prop} {r : R α} {f : α → Store → SR} (R0 : Rel c B σ ρ H st G) (h : OutS c W B D G (r.bindS ρ f))
    (k : ∀ a st1 H1 G1 x, Stp G H G1 H1 → Rel c B σ ρ H1 st1 G1 → rep H G1 H1 x a → OutS c W B D G1 (f a st1) → Q1 x H1) : Out c rep G H Q1 (fun cls d H' => W cls d σ H') r := by
  cases r with
  | ok a st => exact fun H1 G1 x s S rp => k a st H1 G1 x s (R0.step s S) rp (OutS.later s.toGExt h)
  | ex cl ns vs st => exact fun H1 G1 cls d s S er => h σ H1 G1 cls d s.toGExt (R0.step s S) er
  | bad => exact h
theorem Out.bindR {α β γ δ : Type} {rep : Hp → Gh → Hp → β → α → Prop} {rep2 : Hp → Gh → Hp → δ → γ → Prop} (er : Early rep2) {Q : δ → Hp → Prop} {Q1 : β → Hp → Prop} {E : XK} {r : R α} {f : α → Store → R γ} (R0 : Rel c B σ ρ H st G)
    (h : Out c rep2 G H Q E (r.bind f))
    (k : ∀ a st1 H1 G1 x, Stp G H G1 H1 → Rel c B σ ρ H1 st1 G1 → rep H G1 H1 x a → Out c rep2 G1 H1 Q E (f a st1) → Q1 x H1) : Out c rep G H Q1 E r :=
  Out.bind er h fun a st1 H1 G1 x s S rp h' => k a st1 H1 G1 x s (R0.step s S) rp h'
theorem Rel.entry (R : Rel c B σ ρ H st G) {a : Addr} (h : H a = none) : B.H a = none := R.base.free h
theorem getq_set {α : Type} {l : List α} {i j : Nat} {x y : α} (h : (l.set i x)[j]? = some y) : (j = i ∧ i < l.length ∧ y = x) ∨ (j ≠ i ∧ l[j]? = some y) := by
  by_cases e : i = j
  · subst e
    by_cases hl : i < l.length
    · rw [List.getElem?_set_self hl] at h
      exact .inl ⟨rfl, hl, (Option.some.inj h).symm⟩
    · rw [List.getElem?_eq_none (by simpa using hl)] at h
      cases h
  · rw [List.getElem?_set_ne e] at h
    exact .inr ⟨fun z => e z.symm, h⟩
/-- a name stored: a value, or a list that nobody had when the store's expression began -/
theorem Rel.setF {i : Nat} {x : V} {sv : SV} (R0 : Rel c B σ ρ H st G) (s : Stp G H G1 H1) (S : SRel c H1 st1 G1) (rp : rpF c H G1 H1 x sv) : Rel c B (σ.set i (some x)) (ρ.set i sv) H1 st1 G1 := by
  have R1 := R0.step s S
  have own_ne : ∀ (j : Nat) (sw : SV) (a : Addr), ρ[j]? = some sw → sw.isOwn = true → σ[j]? = some (some (.ref a)) → H a ≠ none := fun j sw a h1 h2 h3 h4 => by
    have q := R0.slot j sw _ h1 h3
    cases sw with
    | un => cases h2
    | val p => cases h2
    | own ps =>
      obtain ⟨b, vs, e, hb, _⟩ := q
      cases e
      rw [h4] at hb; cases hb
    | ins _ _ _ =>
      obtain ⟨b, _, _, _, e, _, hb, _⟩ := q
      cases e
      rw [h4] at hb; cases hb
  have newF : sv.isOwn = true → ∃ a, x = .ref a ∧ H a = none := fun hs => by
    cases sv with
    | un => cases hs
    | val p => cases hs
    | own ps =>
      obtain ⟨a, vs, e, _, _, _, _, hn⟩ := rp
      exact ⟨a, e, hn⟩
    | ins _ _ _ => exact rp.elim
  refine ⟨S, R1.base, by simp [R1.len2], fun j sw y h1 h2 => ?_, fun j l sw sx a h1 h2 h3 h4 h5 h6 => ?_⟩
  · rcases getq_set h1 with ⟨e, _, e1⟩ | ⟨ne, h1⟩
    · subst e e1
      rcases getq_set h2 with ⟨_, _, e2⟩ | ⟨ne, _⟩
      · subst e2
        cases sw with
        | un => trivial
        | val p => exact ⟨x, rfl, rp⟩
        | own ps =>
          obtain ⟨a, vs, e, ha, r, n1, n2, n3⟩ := rp
          exact ⟨a, vs, by rw [e], ha, r, n1, n2, R0.entry n3⟩
        | ins _ _ _ => exact rp.elim
      · exact absurd rfl ne
    · rcases getq_set h2 with ⟨e, _, _⟩ | ⟨_, h2⟩
      · exact absurd e ne
      · exact R1.slot j sw y h1 h2
  · rcases getq_set h1 with ⟨e, _, e1⟩ | ⟨ne, g1⟩
    · rcases getq_set h2 with ⟨e', _, _⟩ | ⟨ne', g2⟩
      · rw [e, e']
      · rcases getq_set h5 with ⟨_, _, e5⟩ | ⟨ne, _⟩
        · rcases getq_set h6 with ⟨e6, _, _⟩ | ⟨_, g6⟩
          · exact absurd e6 ne'
          · obtain ⟨b, hb, hn⟩ := newF (by rw [← e1]; exact h3)
            rw [hb] at e5
            have e7 : a = b := by injection e5 with z; injection z
            rw [← e7] at hn
            exact absurd hn (own_ne l sx a g2 h4 g6)
        · exact absurd e ne
    · rcases getq_set h2 with ⟨e', _, e1⟩ | ⟨ne', g2⟩
      · rcases getq_set h6 with ⟨_, _, e5⟩ | ⟨ne2, _⟩
        · rcases getq_set h5 with ⟨e6, _, _⟩ | ⟨_, g5⟩
          · exact absurd e6 ne
          · obtain ⟨b, hb, hn⟩ := newF (by rw [← e1]; exact h4)
            rw [hb] at e5
            have e7 : a = b := by injection e5 with z; injection z
            rw [← e7] at hn
            exact absurd hn (own_ne j sw a g1 h3 g5)
        · exact absurd e' ne2
      · rcases getq_set h5 with ⟨e6, _, _⟩ | ⟨_, g5⟩
        · exact absurd e6 ne
        · rcases getq_set h6 with ⟨e6, _, _⟩ | ⟨_, g6⟩
          · exact absurd e6 ne'
          · exact R1.dist j l sw sx a g1 g2 h3 h4 g5 g6
end
/-! ### constants, names -/
section
variable {cm : Nat → Option Addr} {X : Cx} {W : WX} {pos : Pos}
theorem ce_int {i j} : CE cm X W (eC (.int i)) (.Constant (.int i) j pos) := PE.weak pe_int fun σ H Q ⟨B, ρ, st, G, R, h⟩ => h H G _ (.refl G H) R.srel .int
theorem ce_bl {b j} : CE cm X W (eC (.bl b)) (.Constant (.bool b) j pos) := PE.weak pe_bl fun σ H Q ⟨B, ρ, st, G, R, h⟩ => h H G _ (.refl G H) R.srel .bl
theorem ce_non {j} : CE cm X W (eC .non) (.Constant .none j pos) := PE.weak pe_non fun σ H Q ⟨B, ρ, st, G, R, h⟩ => h H G _ (.refl G H) R.srel .non
theorem ce_str {s : List Nat} {x : Str} {j} (hx : x = ⟨s.toArray⟩ := by decide +kernel) : CE cm X W (eC (.str s)) (.Constant (.str x) j pos) := PE.weak pe_str fun σ H Q ⟨B, ρ, st, G, R, h⟩ => by
  subst hx
  exact h H G _ (.refl G H) R.srel .str
theorem ce_var (i : Nat) {x : Str} (hN : X.N[i]? = some x := by rfl) (hv : Vis X.env.scope x := by first | exact Or.inl rfl | exact Or.inr (Or.inl rfl) | exact Or.inr (Or.inr rfl)) (hd : (x == ("__debug__" : Str)) = false := by decide)
    (hcd : (x == ("__classdict__" : Str)) = false := by decide) : CE cm X W (eVar i) (.Name x pos) := PE.weak (pe_var hN hv hd hcd) fun σ H Q ⟨B, ρ, st, G, R, h⟩ => by
  cases e : ρ[i]? with
  | none => simp only [eVar, e] at h; exact h.elim
  | some sv =>
    have hi : i < σ.length := by rw [← R.len2]; exact (List.getElem?_eq_some_iff.mp e).1
    have q := R.slot i sv σ[i] e (List.getElem?_eq_getElem hi)
    cases sv with
    | val p =>
      simp only [eVar, e] at h
      obtain ⟨v, hv, r⟩ := q
      exact ⟨v, by rw [List.getElem?_eq_getElem hi, hv], h H G v (.refl G H) R.srel r⟩
    | _ => simp only [eVar, e] at h; exact h.elim
/-- a module's constant -/
theorem ce_glob {x : Str} {v : V} {p : PV} {u : Value} (hg : Gl X x) (hm : X.mg x = some u) (r : RelV v u) (rp : ∀ G, RepV (cnOf X cm) G v p) (hd : (x == ("__debug__" : Str)) = false := by decide) : CE cm X W (eC p) (.Name x pos) :=
  PE.weak (pe_glob hg hm r hd) fun σ H Q ⟨B, ρ, st, G, R, h⟩ => h H G _ (.refl G H) R.srel (rp G)
/-! ### operators -/
def Rd2 (c : Cn) (r : R2) (f : PV → PV → Option PV) : Prop := ∀ (G : Gh) (H : Hp) (st : Store) (v w : V) (p q z : PV) (Q : VK), SRel c H st G → RepV c G v p → RepV c G w q → f p q = some z →
  (∀ H' G' x, Stp G H G' H' → SRel c H' st G' → RepV c G' x z → Q x H') → r v w H Q
def Rd1 (c : Cn) (r : V → Hp → VK → Prop) (f : PV → Option PV) : Prop := ∀ (G : Gh) (H : Hp) (st : Store) (v : V) (p z : PV) (Q : VK), SRel c H st G → RepV c G v p → f p = some z →
  (∀ H' G' x, Stp G H G' H' → SRel c H' st G' → RepV c G' x z → Q x H') → r v H Q
def RdN (c : Cn) (r : List V → Hp → VK → Prop) (f : List PV → Option PV) : Prop := ∀ (G : Gh) (H : Hp) (st : Store) (vs : List V) (ps : List PV) (z : PV) (Q : VK), SRel c H st G → RepVs c G vs ps → f ps = some z →
  (∀ H' G' x, Stp G H G' H' → SRel c H' st G' → RepV c G' x z → Q x H') → r vs H Q
theorem out_ofOpt {c : Cn} {G : Gh} {H : Hp} {Q : VK} {E : XK} {o : Option PV} {st : Store} (h : Out c (rpE c) G H Q E (R.ofOpt o st)) : ∃ z, o = some z ∧ ∀ H' G' x, Stp G H G' H' → SRel c H' st G' → RepV c G' x z → Q x H' := by
  cases o with
  | none => exact h.elim
  | some z => exact ⟨z, rfl, h⟩
variable {a b : Expr} {m1 m2 : EM}
theorem rd_op2 {r : R2} {f : PV → PV → Option PV} (hr : Rd2 (cnOf X cm) r f) (σ : L2.St) (H : Hp) (Q : VK) (h : tE (cnOf X cm) W (eOp2 f m1 m2) σ H Q) : tOp r (tE (cnOf X cm) W m1) (tE (cnOf X cm) W m2) σ H Q := by
  obtain ⟨B, ρ, st, G, R, h⟩ := h
  refine ⟨B, ρ, st, G, R, Out.bindR early_E R h fun p st1 H1 G1 x s1 R1 rx h1 => ?_⟩
  refine ⟨B, ρ, st1, G1, R1, Out.bindR early_E R1 h1 fun q st2 H2 G2 y s2 R2 ry h2 => ?_⟩
  obtain ⟨z, e, h3⟩ := out_ofOpt h2
  exact hr G2 H2 st2 x y p q z Q R2.srel (rx.up s2.toGExt) ry e h3
theorem ce_op {op : Operator} {r : R2} {f : PV → PV → Option PV} (ho : OpR X (binaryOp op) r) (hr : Rd2 (cnOf X cm) r f) (ha : CE cm X W m1 a) (hb : CE cm X W m2 b) : CE cm X W (eOp2 f m1 m2) (.BinOp a op b pos) := PE.weak (pe_op ho ha hb) (rd_op2 hr)
theorem ce_un {op : UnaryOp} {r : V → Hp → VK → Prop} {f : PV → Option PV} (ho : UnR X (unaryOp op) r) (hr : Rd1 (cnOf X cm) r f) (ha : CE cm X W m1 a) : CE cm X W (eOp1 f m1) (.UnaryOp op a pos) := PE.weak (pe_un ho ha) fun σ H Q ⟨B, ρ, st, G, R, h⟩ => by
  refine ⟨B, ρ, st, G, R, Out.bindR early_E R h fun p st1 H1 G1 x s1 R1 rx h1 => ?_⟩
  obtain ⟨z, e, h3⟩ := out_ofOpt h1
  exact hr G1 H1 st1 x p z Q R1.srel rx e h3
theorem ce_cmp {op : CmpOp} {r : R2} {f : PV → PV → Option PV} (ho : OpR X (compareOp op) r) (hr : Rd2 (cnOf X cm) r f) (ha : CE cm X W m1 a) (hb : CE cm X W m2 b) (hm : behindInMarks op b = false := by first | exact nomark _ | rfl) : CE cm X W (eOp2 f m1 m2) (.Compare a [op] [b] pos) :=
  PE.weak (pe_cmpR ho ha hb hm) (rd_op2 hr)
theorem tE_tVal {m : EM} {σ : L2.St} {H : Hp} {Q : Bool → Hp → Prop} (h : tT (cnOf X cm) W (tVal m) σ H Q) : tE (cnOf X cm) W m σ H fun x H1 => ∃ k, x = .bl k ∧ Q k H1 := by
  obtain ⟨B, ρ, st, G, R, h⟩ := h
  refine ⟨B, ρ, st, G, R, Out.bindR early_B R h fun p st1 H1 G1 x s1 R1 rx h1 => ?_⟩
  cases rx with
  | bl => exact ⟨_, rfl, h1 H1 G1 _ (.refl G1 H1) R1.srel rfl⟩
  | _ => exact h1.elim
theorem ct_cmp {op : CmpOp} {r : R2} {f : PV → PV → Option PV} (ho : OpR X (compareOp op) r) (hr : Rd2 (cnOf X cm) r f) (ha : CE cm X W m1 a) (hb : CE cm X W m2 b) (hm : behindInMarks op b = false := by first | exact nomark _ | rfl) : CT cm X W (tVal (eOp2 f m1 m2)) (.Compare a [op] [b] pos) :=
  PT.weak (pt_cmpR ho ha hb hm) fun σ H Q h => rd_op2 hr σ H _ (tE_tVal h)
theorem ct_val {e : Expr} {m : EM} (h : CE cm X W m e) (he : ∀ whole, isTrue e X.env whole = (do let v ← whole; standAt e.pos; holding [v] (truthy v)) := by intro _; rfl) : CT cm X W (tVal m) e := PT.weak (pt_val h he) fun σ H Q h => tE_tVal h
theorem ct_not {m : BM} (h : CT cm X W m a) : CT cm X W (tNot m) (.UnaryOp .Not a pos) := PT.weak (pt_not h) fun σ H Q ⟨B, ρ, st, G, R, h⟩ =>
  ⟨B, ρ, st, G, R, Out.bindR early_B R h fun k st1 H1 G1 x s1 R1 rx h1 => by
    subst rx
    exact h1 H1 G1 _ (.refl G1 H1) R1.srel rfl⟩
/-- chains of and, or as tests -/
def CW (cm : Nat → Option Addr) (X : Cx) (W : WX) (m : BM) (e : Expr) : Prop := PW X e (tT (cnOf X cm) W m)
theorem PW.weak {X : Cx} {e : Expr} {t t' : TT} (h : PW X e t) (w : ∀ σ H Q, t' σ H Q → t σ H Q) : PW X e t' := ⟨fun wh pins s σ H Q I q => h.run wh pins s σ H Q I (w σ H Q q)⟩
theorem ct_w {m : BM} (h : CW cm X W m a) : CT cm X W m a := L2.PW.pt h
theorem cw_and1 {m : BM} (h : CT cm X W m a) : CW cm X W m (.BoolOp .And [a] pos) := pw_and1 h
theorem cw_or1 {m : BM} (h : CT cm X W m a) : CW cm X W m (.BoolOp .Or [a] pos) := pw_or1 h
theorem cw_and {m n : BM} {rest : List Expr} (h : CT cm X W m a) (h2 : CW cm X W n (.BoolOp .And (b :: rest) pos)) : CW cm X W (tAnd m n) (.BoolOp .And (a :: b :: rest) pos) := PW.weak (pw_and h h2) fun σ H Q ⟨B, ρ, st, G, R, h⟩ =>
  ⟨B, ρ, st, G, R, Out.bindR early_B R h fun k st1 H1 G1 x s1 R1 rx h1 => by
    subst rx
    cases x with
    | true => exact ⟨B, ρ, st1, G1, R1, h1⟩
    | false => exact h1 H1 G1 _ (.refl G1 H1) R1.srel rfl⟩
theorem cw_or {m n : BM} {rest : List Expr} (h : CT cm X W m a) (h2 : CW cm X W n (.BoolOp .Or (b :: rest) pos)) : CW cm X W (tOr m n) (.BoolOp .Or (a :: b :: rest) pos) := PW.weak (pw_or h h2) fun σ H Q ⟨B, ρ, st, G, R, h⟩ =>
  ⟨B, ρ, st, G, R, Out.bindR early_B R h fun k st1 H1 G1 x s1 R1 rx h1 => by
    subst rx
    cases x with
    | false => exact ⟨B, ρ, st1, G1, R1, h1⟩
    | true => exact h1 H1 G1 _ (.refl G1 H1) R1.srel rfl⟩
/-! ### and, or, not as values -/
theorem ce_one {op : PySem.BoolOp} {m : EM} (h : CE cm X W m a) : CE cm X W m (.BoolOp op [a] pos) := pe_one h
theorem ce_and {rest : List Expr} (h : CE cm X W m1 a) (h2 : CE cm X W m2 (.BoolOp .And (b :: rest) pos)) : CE cm X W (eAnd m1 m2) (.BoolOp .And (a :: b :: rest) pos) := PE.weak (pe_and h h2) fun σ H Q ⟨B, ρ, st, G, R, h⟩ =>
  ⟨B, ρ, st, G, R, Out.bindR early_E R h fun k st1 H1 G1 x s1 R1 rx h1 => by
    cases rx with
    | @bl b =>
      refine ⟨b, rfl, ?_⟩
      cases b with
      | true => exact ⟨B, ρ, st1, G1, R1, h1⟩
      | false => exact h1 H1 G1 _ (.refl G1 H1) R1.srel .bl
    | _ => exact h1.elim⟩
theorem ce_or {rest : List Expr} (h : CE cm X W m1 a) (h2 : CE cm X W m2 (.BoolOp .Or (b :: rest) pos)) : CE cm X W (eOr m1 m2) (.BoolOp .Or (a :: b :: rest) pos) := PE.weak (pe_or h h2) fun σ H Q ⟨B, ρ, st, G, R, h⟩ =>
  ⟨B, ρ, st, G, R, Out.bindR early_E R h fun k st1 H1 G1 x s1 R1 rx h1 => by
    cases rx with
    | @bl b =>
      refine ⟨b, rfl, ?_⟩
      cases b with
      | false => exact ⟨B, ρ, st1, G1, R1, h1⟩
      | true => exact h1 H1 G1 _ (.refl G1 H1) R1.srel .bl
    | _ => exact h1.elim⟩
theorem ce_not (h : CE cm X W m1 a) : CE cm X W (eNot m1) (.UnaryOp .Not a pos) := PE.weak (pe_not h) fun σ H Q ⟨B, ρ, st, G, R, h⟩ =>
  ⟨B, ρ, st, G, R, Out.bindR early_E R h fun k st1 H1 G1 x s1 R1 rx h1 => by
    cases rx with
    | bl => exact ⟨_, rfl, h1 H1 G1 _ (.refl G1 H1) R1.srel .bl⟩
    | _ => exact h1.elim⟩
theorem ce_if {t : BM} {e : Expr} (ht : CT cm X W t e) (h1 : CE cm X W m1 a) (h2 : CE cm X W m2 b) : CE cm X W (eIf t m1 m2) (.IfExp e a b pos) := PE.weak (pe_ifExp ht h1 h2) fun σ H Q ⟨B, ρ, st, G, R, h⟩ =>
  ⟨B, ρ, st, G, R, Out.bindR early_E R h fun k st1 H1 G1 x s1 R1 rx h1 => by
    subst rx
    cases x with
    | true => exact ⟨B, ρ, st1, G1, R1, h1⟩
    | false => exact ⟨B, ρ, st1, G1, R1, h1⟩⟩
theorem cf_if {t : BM} {e : Expr} {f1 f2 : FM} (ht : CT cm X W t e) (h1 : CF cm X W f1 a) (h2 : CF cm X W f2 b) : CF cm X W (fIf t f1 f2) (.IfExp e a b pos) := PE.weak (pe_ifExp ht h1 h2) fun σ H Q ⟨B, ρ, st, G, R, h⟩ =>
  ⟨B, ρ, st, G, R, Out.bindR early_F R h fun k st1 H1 G1 x s1 R1 rx h1 => by
    subst rx
    cases x with
    | true => exact ⟨B, ρ, st1, G1, R1, h1⟩
    | false => exact ⟨B, ρ, st1, G1, R1, h1⟩⟩
/-! ### arguments, displays -/
variable {es : List Expr} {ar : AM} {f : FM}
theorem ca_nil : CA cm X W aNil [] := PA.weak pa_nil fun σ H Q ⟨B, ρ, st, G, R, h⟩ => h H G _ (.refl G H) R.srel .nil
theorem ca_cons (ha : CE cm X W m1 a) (hr : CA cm X W ar es) (hs : starEach (a :: es) X.env = (false, eval a X.env) :: starEach es X.env := by rfl) : CA cm X W (aCons m1 ar) (a :: es) := PA.weak (pa_cons ha hr hs) fun σ H Q ⟨B, ρ, st, G, R, h⟩ =>
  ⟨B, ρ, st, G, R, Out.bindR early_A R h fun p st1 H1 G1 x s1 R1 rx h1 =>
    ⟨B, ρ, st1, G1, R1, Out.bindR early_A R1 h1 fun ps st2 H2 G2 xs s2 R2 rxs h2 => h2 H2 G2 _ (.refl G2 H2) R2.srel (.cons (rx.up s2.toGExt) rxs)⟩⟩
theorem lim_line {n : Nat} (h : n ≤ lim) : n ≤ sizeLine := Nat.le_trans h (by decide)
theorem ce_tup {x1} (h : CA cm X W ar es) : CE cm X W (eTup ar) (.Tuple es x1 pos) := PE.weak (pe_tupN h) fun σ H Q ⟨B, ρ, st, G, R, h⟩ =>
  ⟨B, ρ, st, G, R, Out.bindR early_E R h fun ps st1 H1 G1 xs s1 R1 rx h1 => by
    by_cases e : ps.length ≤ lim
    · rw [if_pos e] at h1
      refine ⟨by rw [rx.len]; exact lim_line e, fun p o hp hd => ?_⟩
      obtain ⟨S2, s2⟩ := R1.srel.freeze (o := tupO o xs) hp
      exact h1 _ _ _ s2 S2 (.tup ⟨o, by show upd G1.fz p _ p = _; exact upd_same, hd⟩ (rx.up s2.toGExt))
    · rw [if_neg e] at h1
      exact h1.elim⟩
theorem cf_lst (h : CA cm X W ar es) : CF cm X W (fLst ar) (.List es pos) := PE.weak (pe_lst h) fun σ H Q ⟨B, ρ, st, G, R, h⟩ =>
  ⟨B, ρ, st, G, R, Out.bindR early_F R h fun ps st1 H1 G1 xs s1 R1 rx h1 => by
    by_cases e : ps.length ≤ lim
    · rw [if_pos e] at h1
      refine ⟨by rw [rx.len]; exact lim_line e, fun p hp => ?_⟩
      obtain ⟨S2, s2⟩ := R1.srel.fresh (o := .lst xs) hp
      exact h1 _ _ _ s2 S2 ⟨p, xs, rfl, upd_same, rx, R1.srel.notFz hp, R1.srel.notIo hp, hp⟩
    · rw [if_neg e] at h1
      exact h1.elim⟩
theorem w_frz {f : FM} {σ : L2.St} {H : Hp} {Q : VK} (h0 : tE (cnOf X cm) W (eFrz f) σ H Q) : tF (cnOf X cm) W f σ H Q := by
  obtain ⟨B, ρ, st, G, R, h⟩ := h0
  refine ⟨B, ρ, st, G, R, ?_⟩
  unfold eFrz at h
  cases hr : f ρ st with
  | bad => rw [hr] at h; exact h
  | ex cl ns vs st1 => rw [hr] at h; exact h
  | ok sv st1 =>
    rw [hr] at h
    intro H1 G1 x s1 S1 rx
    cases sv with
    | un => exact rx.elim
    | ins _ _ _ => exact rx.elim
    | val p => exact h H1 G1 x s1 S1 rx
    | own ps =>
      obtain ⟨a, vs, e, ha, r, n1, n2, n3⟩ := rx
      subst e
      -- the list stands as it is; from now on it is frozen
      have ext : GExt G1 ⟨upd G1.fz a (.lst vs), G1.io⟩ := ⟨fun b u hb => by
        show upd G1.fz a _ b = _
        rw [upd_ne (ne_of_none hb n1)]; exact hb, fun _ _ z => z⟩
      have S2 : SRel (cnOf X cm) H1 st1 ⟨upd G1.fz a (.lst vs), G1.io⟩ := by
        refine ⟨fun b u hb => ?_, S1.nd, fun b hb => ?_, S1.len, fun i b o q1 q2 => ?_⟩
        · by_cases eb : b = a
          · have hb' : upd G1.fz a (.lst vs) b = some u := hb
            rw [eb, upd_same] at hb'
            rw [eb, ha]; exact hb'
          · have hb' : upd G1.fz a (.lst vs) b = some u := hb
            rw [upd_ne eb] at hb'
            exact S1.fzH b u hb'
        · show upd G1.fz a _ b = none
          rw [upd_ne (show b ≠ a from fun z => n2 (by rw [← z]; exact hb))]
          exact S1.iofz b hb
        · have q := S1.obj i b o q1 q2
          cases o with
          | lst qs =>
            obtain ⟨ws, z, rr⟩ := q
            exact ⟨ws, z, rr.up ext⟩
          | ins cl ns qs =>
            obtain ⟨C, dx, fvs, z, hc, hn, rr⟩ := q
            exact ⟨C, dx, fvs, z, hc, hn, rr.up ext⟩
      -- seen from the expression's begin the list is new
      have s2 : Stp G H ⟨upd G1.fz a (.lst vs), G1.io⟩ H1 := ⟨s1.toGExt.trans ext, s1.keep, s1.live, fun b o hb hz => by
        show upd G1.fz a _ b = none
        rw [upd_ne (ne_of_none hb n3)]
        exact s1.nfz b o hb hz, s1.nio⟩
      exact h H1 _ (.ref a) s2 S2 (.lst (by show upd G1.fz a _ a = _; exact upd_same) (r.up ext))
theorem ce_frz {e : Expr} (h : CF cm X W f e) : CE cm X W (eFrz f) e := PE.weak h fun σ H Q h => w_frz h
theorem w_val {m1 : EM} {σ : L2.St} {H : Hp} {Q : VK} : tF (cnOf X cm) W (fVal m1) σ H Q → tE (cnOf X cm) W m1 σ H Q := fun ⟨B, ρ, st, G, R, h⟩ =>
  ⟨B, ρ, st, G, R, Out.bindR early_F R h fun p st1 H1 G1 x s1 R1 rx h1 => h1 H1 G1 _ (.refl G1 H1) R1.srel rx⟩
theorem cf_val {e : Expr} (h : CE cm X W m1 e) : CF cm X W (fVal m1) e := PE.weak h fun σ H Q h => w_val h
/-! ### built-ins, subscripts -/
theorem rd_opN {r : List V → Hp → VK → Prop} {f : List PV → Option PV} (hr : RdN (cnOf X cm) r f) (σ : L2.St) (H : Hp) (Q : VK) (h : tE (cnOf X cm) W (eOpN f ar) σ H Q) : tCB r (tA (cnOf X cm) W ar) σ H Q := by
  obtain ⟨B, ρ, st, G, R, h⟩ := h
  refine ⟨B, ρ, st, G, R, Out.bindR early_E R h fun ps st1 H1 G1 xs s1 R1 rx h1 => ?_⟩
  obtain ⟨z, e, h3⟩ := out_ofOpt h1
  exact hr G1 H1 st1 xs ps z Q R1.srel rx e h3
variable {x : Str} {p : Pos} {id T : String}
theorem ce_callB {r : List V → Hp → VK → Prop} {fn : List PV → Option PV} (hc : CallR X (.builtin id) r) (hr : RdN (cnOf X cm) r fn) (hg : Gl X x) (hm : X.mg x = none) (hv : bootBuiltins x = some (.builtin id)) (ha : CA cm X W ar (a :: es)) (hn : x ≠ "__name__" := by decide) (hdb : (x == ("__debug__" : Str)) = false := by decide)
    (he : starEach (a :: es) X.env = (false, eval a X.env) :: starEach es X.env := by rfl) (hpl : (backTo pos (starEach es X.env)).any (·.1) = false := by rfl) : CE cm X W (eOpN fn ar) (.Call (.Name x p) (a :: es) [] pos) := PE.weak (pe_callB hc hg hm hv ha hn hdb he hpl) (rd_opN hr)
theorem ce_callTy {r : List V → Hp → VK → Prop} {fn : List PV → Option PV} (hc : CallR X (.type T) r) (hr : RdN (cnOf X cm) r fn) (hg : Gl X x) (hm : X.mg x = none) (hv : bootBuiltins x = some (.type T)) (ha : CA cm X W ar (a :: es)) (hn : x ≠ "__name__" := by decide) (hdb : (x == ("__debug__" : Str)) = false := by decide)
    (he : starEach (a :: es) X.env = (false, eval a X.env) :: starEach es X.env := by rfl) (hpl : (backTo pos (starEach es X.env)).any (·.1) = false := by rfl) : CE cm X W (eOpN fn ar) (.Call (.Name x p) (a :: es) [] pos) := PE.weak (pe_callTy hc hg hm hv ha hn hdb he hpl) (rd_opN hr)
theorem ce_ixR {r : R2} {fn : PV → PV → Option PV} (hc : IxR X r) (hr : Rd2 (cnOf X cm) r fn) (ha : CE cm X W m1 a) (hb : CE cm X W m2 b) (hs : PlainIx b := by exact fun _ _ => rfl) : CE cm X W (eOp2 fn m1 m2) (.Subscript a b pos) := PE.weak (pe_ix hc ha hb hs) (rd_op2 hr)
/-! ### statements -/
variable {s : Stmt} {sts : List Stmt} {n1 n2 : SM} {t : BM}
theorem css_nil : CSs cm X W sNil [] := PSs.weak pss_nil fun D σ H ⟨B, ρ, st, G, R, h⟩ => h σ H G (.refl G) R
theorem css_cons (h1 : CS cm X W n1 s) (h2 : CSs cm X W n2 sts) : CSs cm X W (sSeq n1 n2) (s :: sts) := PSs.weak (pss_cons h1 h2) fun D σ H ⟨B, ρ, st, G, R, h⟩ => by
  refine ⟨B, ρ, st, G, R, ?_⟩
  unfold sSeq at h
  cases e : n1 ρ st with
  | next ρ1 st1 => rw [e] at h; exact fun σ1 H1 G1 ex R1 => ⟨B, ρ1, st1, G1, R1, OutS.later ex h⟩
  | brk _ _ => rw [e] at h; exact h
  | cnt _ _ => rw [e] at h; exact h
  | ret _ _ => rw [e] at h; exact h
  | ex _ _ _ _ _ => rw [e] at h; exact h
  | bad => rw [e] at h; exact h
theorem css_one (h1 : CS cm X W n1 s) : CSs cm X W n1 [s] := pss_one h1
theorem cs_pass : CS cm X W sNil (.Pass pos) := PS.weak ps_pass fun D σ H ⟨B, ρ, st, G, R, h⟩ => h σ H G (.refl G) R
theorem cs_if {e : Expr} {l1 l2 : List Stmt} (ht : CT cm X W t e) (h1 : CSs cm X W n1 l1) (h2 : CSs cm X W n2 l2) : CS cm X W (sIf t n1 n2) (.If e l1 l2 pos) := PS.weak (ps_if ht h1 h2) fun D σ H ⟨B, ρ, st, G, R, h⟩ =>
  ⟨B, ρ, st, G, R, OutS.bind R h fun k st1 H1 G1 x s1 R1 rx h1 => by
    subst rx
    cases x with
    | true => exact ⟨B, ρ, st1, G1, R1, h1⟩
    | false => exact ⟨B, ρ, st1, G1, R1, h1⟩⟩
theorem w_set {i : Nat} {f : FM} {D : Ends} {σ : L2.St} {H : Hp} (h0 : tS (cnOf X cm) W (sSet i f) D σ H) : tF (cnOf X cm) W f σ H fun x H1 => D.nx (σ.set i (some x)) H1 := by
  obtain ⟨B, ρ, st, G, R, h⟩ := h0
  refine ⟨B, ρ, st, G, R, ?_⟩
  unfold sSet at h
  cases hr : f ρ st with
  | bad => rw [hr] at h; exact h
  | ex cl ns vs st1 => rw [hr] at h; exact fun H1 G1 cls d s1 S er => h σ H1 G1 cls d s1.toGExt (R.step s1 S) er
  | ok sv st1 =>
    rw [hr] at h
    exact fun H1 G1 x s1 S1 rx => h _ H1 G1 s1.toGExt (R.setF s1 S1 rx)
theorem cs_set (i : Nat) {e : Expr} {pos' : Pos} (he : CF cm X W f e) (hN : X.N.Nodup) (hi : X.N[i]? = some x := by rfl) (hx : Loc X.env.scope x := by first | exact .inl rfl | exact .inr rfl) (hs : swapsWith e (some (.Name x pos')) pos.line X.env = pure false := by rfl)
    (hf : X.fn x = true ∨ X.env.scope.names.lookup x = some .local := by first | exact .inl rfl | exact .inr rfl | assumption) : CS cm X W (sSet i f) (.Assign [.Name x pos'] e pos) := PS.weak (ps_set hN hi hx he hs hf) fun D σ H h => w_set h
theorem cs_ret {e : Expr} (he : CF cm X W f e) : CS cm X W (sRet f) (.Return (some e) pos) := PS.weak (ps_ret he) fun D σ H ⟨B, ρ, st, G, R, h⟩ => by
  refine ⟨B, ρ, st, G, R, ?_⟩
  unfold sRet at h
  cases hr : f ρ st with
  | bad => rw [hr] at h; exact h
  | ex cl ns vs st1 => rw [hr] at h; exact fun H1 G1 cls d s1 S er => h σ H1 G1 cls d s1.toGExt (R.step s1 S) er
  | ok sv st1 =>
    rw [hr] at h
    exact fun H1 G1 x s1 S1 rx => h H1 G1 x s1.toGExt S1 (R.base.trans s1) (early_F _ _ _ _ _ _ (fun b z => R.entry z) rx)
theorem cs_retN : CS cm X W sRetN (.Return none pos) := PS.weak ps_retN fun D σ H ⟨B, ρ, st, G, R, h⟩ => h H G .non (.refl G) R.srel R.base .non
theorem cs_retV (i : Nat) {pos' : Pos} (hN : X.N[i]? = some x := by rfl) (hv : Vis X.env.scope x := by first | exact Or.inl rfl | exact Or.inr (Or.inl rfl) | exact Or.inr (Or.inr rfl)) (hd : (x == ("__debug__" : Str)) = false := by decide)
    (hcd : (x == ("__classdict__" : Str)) = false := by decide) : CS cm X W (sRetV i) (.Return (some (.Name x pos')) pos) := PS.weak (ps_ret (pe_var hN hv hd hcd)) fun D σ H ⟨B, ρ, st, G, R, h⟩ => by
  cases e : ρ[i]? with
  | none => simp only [sRetV, e] at h; exact h.elim
  | some sv =>
    have hi : i < σ.length := by rw [← R.len2]; exact (List.getElem?_eq_some_iff.mp e).1
    have q := R.slot i sv σ[i] e (List.getElem?_eq_getElem hi)
    cases sv with
    | val p =>
      simp only [sRetV, e] at h
      obtain ⟨v, hv, r⟩ := q
      exact ⟨v, by rw [List.getElem?_eq_getElem hi, hv], h H G v (.refl G) R.srel R.base r⟩
    | own ps =>
      simp only [sRetV, e] at h
      obtain ⟨a, vs, hv, ha, r, k1, k2, k3⟩ := q
      exact ⟨.ref a, by rw [List.getElem?_eq_getElem hi, hv], h H G (.ref a) (.refl G) R.srel R.base ⟨a, vs, rfl, ha, r, k1, k2, k3⟩⟩
    | _ => simp only [sRetV, e] at h; exact h.elim
theorem cs_drop {e : Expr} (he : CE cm X W m1 e) (hs : swapsWith e none pos.line X.env = pure false := by rfl) : CS cm X W (sDrop m1) (.Expr e pos) := PS.weak (ps_expr he hs) fun D σ H ⟨B, ρ, st, G, R, h⟩ =>
  ⟨B, ρ, st, G, R, OutS.bind R h fun p st1 H1 G1 x s1 R1 rx h1 => h1 σ H1 G1 (.refl G1) R1⟩
/-- a ghost statement ahead of a block: a list of a name's own is frozen -/
theorem css_frz (i : Nat) (h : CSs cm X W n1 sts) : CSs cm X W (sSeq (sFrz i) n1) sts := PSs.weak h fun D σ H ⟨B, ρ, st, G, R, h⟩ => by
  unfold sSeq sFrz at h
  cases e : ρ[i]? with
  | none => simp only [e] at h; exact h.elim
  | some sv =>
    cases sv with
    | own ps =>
      simp only [e] at h
      have hi : i < σ.length := by rw [← R.len2]; exact (List.getElem?_eq_some_iff.mp e).1
      obtain ⟨a, vs, hv, ha, r, k1, k2, k3⟩ := R.slot i _ σ[i] e (List.getElem?_eq_getElem hi)
      have hσ : σ[i]? = some (some (.ref a)) := by rw [List.getElem?_eq_getElem hi, hv]
      have ext : GExt G ⟨upd G.fz a (.lst vs), G.io⟩ := ⟨fun b u hb => by
        show upd G.fz a _ b = _
        rw [upd_ne (ne_of_none hb k1)]; exact hb, fun _ _ z => z⟩
      refine ⟨B, _, st, ⟨upd G.fz a (.lst vs), G.io⟩, ⟨⟨fun b u hb => ?_, R.nd, fun b hb => ?_, R.len, fun j b o q1 q2 => ?_⟩, ?_, by simp [R.len2], fun j sw y h1 h2 => ?_, fun j l sw sx b h1 h2 h3 h4 h5 h6 => ?_⟩, OutS.later ext h⟩
      · by_cases eb : b = a
        · have hb' : upd G.fz a (.lst vs) b = some u := hb
          rw [eb, upd_same] at hb'
          rw [eb, ha]; exact hb'
        · have hb' : upd G.fz a (.lst vs) b = some u := hb
          rw [upd_ne eb] at hb'
          exact R.fzH b u hb'
      · show upd G.fz a _ b = none
        rw [upd_ne (show b ≠ a from fun z => k2 (by rw [← z]; exact hb))]
        exact R.iofz b hb
      · have q := R.obj j b o q1 q2
        cases o with
        | lst qs =>
          obtain ⟨ws, z, rr⟩ := q
          exact ⟨ws, z, rr.up ext⟩
        | ins cl ns qs =>
          obtain ⟨C, dx, fvs, z, hc, hn, rr⟩ := q
          exact ⟨C, dx, fvs, z, hc, hn, rr.up ext⟩
      · exact ⟨R.base.toGExt.trans ext, R.base.keep, R.base.live, fun b o hb hz => by
          show upd G.fz a _ b = none
          rw [upd_ne (ne_of_none hb k3)]
          exact R.base.nfz b o hb hz, R.base.nio⟩
      · rcases getq_set h1 with ⟨ej, _, e1⟩ | ⟨ne, g1⟩
        · subst ej
          rw [hσ] at h2
          cases h2
          rw [e1]
          exact ⟨.ref a, rfl, .lst (by show upd G.fz a _ a = _; exact upd_same) (r.up ext)⟩
        · have q := R.slot j sw y g1 h2
          cases sw with
          | un => trivial
          | val p =>
            obtain ⟨v, ev, rv⟩ := q
            exact ⟨v, ev, rv.up ext⟩
          | own qs =>
            obtain ⟨b, ws, e1, e2, e3, e4, e5, e6⟩ := q
            refine ⟨b, ws, e1, e2, e3.up ext, ?_, e5, e6⟩
            show upd G.fz a _ b = none
            rw [upd_ne (show b ≠ a from fun z => ne (R.dist j i _ _ a g1 e rfl rfl (by rw [h2, e1, z]) hσ))]
            exact e4
          | ins cl ns qs =>
            obtain ⟨b, C, dx, fvs, e1, es, e2, e3, e3', e3'', e4, e5, e6⟩ := q
            refine ⟨b, C, dx, fvs, e1, es, e2, e3, e3', e3''.up ext, ?_, e5, e6⟩
            show upd G.fz a _ b = none
            rw [upd_ne (show b ≠ a from fun z => ne (R.dist j i _ _ a g1 e rfl rfl (by rw [h2, e1, z]) hσ))]
            exact e4
      · rcases getq_set h1 with ⟨_, _, e1⟩ | ⟨_, g1⟩
        · rw [e1] at h3; cases h3
        · rcases getq_set h2 with ⟨_, _, e1⟩ | ⟨_, g2⟩
          · rw [e1] at h4; cases h4
          · exact R.dist j l sw sx b g1 g2 h3 h4 h5 h6
    | _ => simp only [e] at h; exact h.elim
end
end BR
set_option Elab.async false
set_option linter.all false
set_option maxRecDepth 100000
/-! BrD: what the operators do to pure values. -/
namespace BR
open PySem PySem.Spec PyProof.Rows L2
theorem str_len (s : List Nat) : (⟨s.toArray⟩ : Str).length = s.length := by show s.toArray.size = _; simp
theorem str_toList (s : List Nat) : (⟨s.toArray⟩ : Str).cps.toList = s := by simp
theorem str_app (a b : List Nat) : (⟨a.toArray⟩ : Str) ++ ⟨b.toArray⟩ = ⟨(a ++ b).toArray⟩ := by
  show Str.append _ _ = _
  simp [Str.append]
theorem str_inj {a b : List Nat} (h : (⟨a.toArray⟩ : Str) = ⟨b.toArray⟩) : a = b := by
  have := congrArg (fun z : Str => z.cps.toList) h
  simpa using this
section
variable {c : Cn} {G G' : Gh} {H H' : Hp} {st : Store} {v w : V} {Q : VK}
theorem SRel.sqT (S : SRel c H st G) {a : Addr} {vs : List V} (h : TupN G.fz a vs) : SqT c.K H a vs := sqT_fz S.fzH h.sq
theorem SRel.sqW (S : SRel c H st G) {a : Addr} {vs : List V} (h : SqT c.K G.fz a vs) : SqT c.K H a vs := sqT_fz S.fzH h
theorem SRel.sqL (S : SRel c H st G) {a : Addr} {vs : List V} (h : SqL c.K G.fz a vs) : SqL c.K H a vs := sqL_fz S.fzH h
theorem SRel.lst (S : SRel c H st G) {a : Addr} {vs : List V} (h : G.fz a = some (.lst vs)) : H a = some (.lst vs) := S.fzH _ _ h
/-- a new frozen object -/
theorem rd_new {p : Addr} {o : HO} {x : PV} (S : SRel c H st G) (hp : H p = none) (r : RepV c ⟨upd G.fz p o, G.io⟩ (.ref p) x) (q : ∀ H' G' y, Stp G H G' H' → SRel c H' st G' → RepV c G' y x → Q y H') : Q (.ref p) (upd H p o) := by
  obtain ⟨S2, s2⟩ := S.freeze (o := o) hp
  exact q _ _ _ s2 S2 r
theorem up_new {p : Addr} {o : HO} (S : SRel c H st G) (hp : H p = none) : GExt G ⟨upd G.fz p o, G.io⟩ := (S.freeze (o := o) hp).2.toGExt
theorem rd_now {x : PV} {y : V} (S : SRel c H st G) (r : RepV c G y x) (q : ∀ H' G' y, Stp G H G' H' → SRel c H' st G' → RepV c G' y x → Q y H') : Q y H := q H G y (.refl G H) S r
theorem new_tup {p : Addr} {o : Obj} {vs : List V} {ps : List PV} (S : SRel c H st G) (hp : H p = none) (hd : o.dict = none) (r : RepVs c G vs ps) : RepV c ⟨upd G.fz p (tupO o vs), G.io⟩ (.ref p) (.tup ps) := .tup ⟨o, by show upd G.fz p _ p = _; exact upd_same, hd⟩ (r.up (up_new S hp))
theorem new_wt {p : Addr} {vs : List V} {ps : List PV} (S : SRel c H st G) (hp : H p = none) (r : RepVs c G vs ps) : RepV c ⟨upd G.fz p (.tup vs), G.io⟩ (.ref p) (.wt ps) := .wt (.inl (.inl (by show upd G.fz p _ p = _; exact upd_same))) (r.up (up_new S hp))
theorem new_lst {p : Addr} {vs : List V} {ps : List PV} (S : SRel c H st G) (hp : H p = none) (r : RepVs c G vs ps) : RepV c ⟨upd G.fz p (.lst vs), G.io⟩ (.ref p) (.lst ps) := .lst (by show upd G.fz p _ p = _; exact upd_same) (r.up (up_new S hp))
end
theorem RepVs.nil_iff {c : Cn} {G : Gh} {vs : List V} {ps : List PV} (r : RepVs c G vs ps) : vs = [] ↔ ps = [] := by
  cases r with
  | nil => simp
  | cons _ _ => simp
theorem RepVs.take {c : Cn} {G : Gh} : ∀ {vs : List V} {ps : List PV} (n : Nat), RepVs c G vs ps → RepVs c G (vs.take n) (ps.take n)
  | _, _, 0, _ => .nil
  | _, _, _ + 1, .nil => .nil
  | _, _, n + 1, .cons r t => .cons r (RepVs.take n t)
theorem RepVs.drop {c : Cn} {G : Gh} : ∀ {vs : List V} {ps : List PV} (n : Nat), RepVs c G vs ps → RepVs c G (vs.drop n) (ps.drop n)
  | _, _, 0, r => r
  | _, _, _ + 1, .nil => .nil
  | _, _, n + 1, .cons _ t => RepVs.drop n t
theorem RepVs.rep {c : Cn} {G : Gh} {vs : List V} {ps : List PV} (r : RepVs c G vs ps) : ∀ n : Nat, RepVs c G (List.replicate n vs).flatten (List.replicate n ps).flatten
  | 0 => .nil
  | n + 1 => by
    rw [List.replicate_succ, List.replicate_succ, List.flatten_cons, List.flatten_cons]
    exact RepVs.app r (RepVs.rep r n)
theorem RepVs.dropL {c : Cn} {G : Gh} : ∀ {vs : List V} {ps : List PV}, RepVs c G vs ps → RepVs c G vs.dropLast ps.dropLast
  | _, _, .nil => .nil
  | _, _, .cons _ .nil => .nil
  | _, _, .cons r (.cons r2 t) => .cons r (RepVs.dropL (.cons r2 t))
theorem RepVs.atI {c : Cn} {G : Gh} {vs : List V} {ps : List PV} {i : Int} {p : PV} (r : RepVs c G vs ps) (h : L2.atI ps i = some p) : ∃ v, L2.atI vs i = some v ∧ RepV c G v p := by
  unfold L2.atI at h ⊢
  rw [r.len]
  cases e : ixN ps.length i with
  | none => rw [e] at h; cases h
  | some k =>
    rw [e] at h
    exact r.get h
theorem some_ite {α : Type} {a z : α} {b : Prop} [Decidable b] (h : (if b then some a else none) = some z) : b ∧ a = z := by
  by_cases hb : b
  · rw [if_pos hb] at h
    exact ⟨hb, Option.some.inj h⟩
  · rw [if_neg hb] at h
    cases h
/-! ### + - * // % ** -/
section
variable {X : Cx} {c : Cn}
def rAddS : R2 := fun x y H Q => ∃ i j, x = .str i ∧ y = .str j ∧ i.length + j.length ≤ sizeLine ∧ Q (.str (i ++ j)) H
def rAddAll (K : PySem.W.Frag) : R2 := fun x y H Q => rI0 (fun i j => .int (i + j)) x y H Q ∨ (rAddS x y H Q ∨ (rCatN K x y H Q ∨ rCat x y H Q))
theorem op_addAll : OpR X (binaryOp .Add) (rAddAll X.K) := op_add.or (OpR.or op_add_str (op_catN.or op_cat))
theorem rd_add : Rd2 c (rAddAll c.K) pAdd := by
  intro G H st v w p q z Q S rv rw' h k
  cases rv with
  | @int i =>
    cases rw' with
    | @int j =>
      have h : some (PV.int (i + j)) = some z := h
      cases h
      exact .inl ⟨i, j, rfl, rfl, rd_now S .int k⟩
    | _ => cases h
  | @str a =>
    cases rw' with
    | @str b =>
      obtain ⟨hl, rfl⟩ := some_ite h
      refine .inr (.inl ⟨_, _, rfl, rfl, by rw [str_len, str_len]; exact lim_line hl, ?_⟩)
      rw [str_app]
      exact rd_now S .str k
    | _ => cases h
  | @tup a vs ps ha ra =>
    cases rw' with
    | @tup b ws qs hb rb =>
      obtain ⟨hl, rfl⟩ := some_ite h
      refine .inr (.inr (.inl ⟨a, b, vs, ws, rfl, rfl, S.sqT ha, S.sqT hb, by rw [ra.len, rb.len]; exact lim_line hl, fun e => ?_, fun e e2 => ?_, fun _ _ p o hp hd => ?_⟩))
      · rw [ra.nil_iff.mp e, List.nil_append] at k
        exact rd_now S (.tup hb rb) k
      · rw [rb.nil_iff.mp e2, List.append_nil] at k
        exact rd_now S (.tup ha ra) k
      · exact rd_new S hp (new_tup S hp hd (ra.app rb)) k
    | _ => cases h
  | @lst a vs ps ha ra =>
    cases rw' with
    | @lst b ws qs hb rb =>
      obtain ⟨hl, rfl⟩ := some_ite h
      exact .inr (.inr (.inr ⟨a, b, vs, ws, rfl, rfl, S.lst ha, S.lst hb, by rw [ra.len, rb.len]; exact lim_line hl, fun p hp => rd_new S hp (new_lst S hp (ra.app rb)) k⟩))
    | _ => cases h
  | _ => cases h
theorem rd_sub : Rd2 c (rI0 fun i j => .int (i - j)) pSub := by
  intro G H st v w p q z Q S rv rw' h k
  cases rv with
  | @int i =>
    cases rw' with
    | @int j =>
      have h : some (PV.int (i - j)) = some z := h
      cases h
      exact ⟨i, j, rfl, rfl, rd_now S .int k⟩
    | _ => cases h
  | _ => cases h
theorem small_ok {a : Int} (h : small a = true) : a.natAbs.log2 < 9000 := of_decide_eq_true h
def rMulS : R2 := fun x y H Q => ∃ (z : List Nat) (n : Int), x = .str ⟨z.toArray⟩ ∧ y = .int n ∧ 0 ≤ n ∧ n < 1000 ∧ z.length < 1000 ∧ Q (.str ⟨(List.replicate n.toNat z).flatten.toArray⟩) H
theorem foldl_cps (z : List Nat) : ∀ (m : Nat) (acc : List Nat), List.foldl (fun x1 x2 => x1 ++ x2) acc.toArray (List.replicate m z.toArray) = (acc ++ (List.replicate m z).flatten).toArray
  | 0, acc => by simp
  | m + 1, acc => by
    rw [List.replicate_succ, List.foldl_cons, List.append_toArray, foldl_cps z m, List.replicate_succ, List.flatten_cons, List.append_assoc]
theorem op_mulS : OpR X (binaryOp .Mult) rMulS := by
  intro pins s σ H x y v u Q I rx ry h
  obtain ⟨z, n, rfl, rfl, h0, h1, hl, q⟩ := h
  obtain ⟨t, rfl⟩ := rx
  obtain ⟨t', rfl⟩ := ry
  have hlen : (⟨z.toArray⟩ : Str).length = z.length := str_len z
  have hn63 : (2 : Int) ^ 63 = 9223372036854775808 := by decide
  have hmul : z.length * n.toNat ≤ 1000 * 1000 := Nat.mul_le_mul (by omega) (by omega)
  refine PySem.P.mul_str (by
      rw [decide_eq_false (by omega : ¬ n < -(2 ^ 63 : Int)), decide_eq_false (by omega : ¬ n ≥ 2 ^ 63)]; rfl) (fun _ _ => ?_) (fun _ _ => ?_) ?_
  · rw [hlen]
    have : (1000 : Int) ≤ (2 ^ 63 - 1) / n := by
      rw [Int.le_ediv_iff_mul_le (by omega)]
      omega
    omega
  · rw [hlen]
    exact decide_eq_false (by rw [sizeLine_eq]; omega)
  · by_cases e : n < 1
    · rw [if_pos e]
      refine ⟨by decide, .str ⟨#[]⟩, H, I.tok _, ⟨_, rfl⟩, ?_⟩
      have : n.toNat = 0 := by omega
      rw [this] at q
      exact q
    · rw [if_neg e]
      by_cases e2 : (n == 1 || (⟨z.toArray⟩ : Str).length == 0) = true
      · rw [if_pos e2]
        refine ⟨.str ⟨z.toArray⟩, H, I, ⟨_, rfl⟩, ?_⟩
        have : (List.replicate n.toNat z).flatten = z := by
          rw [hlen] at e2
          rcases Bool.or_eq_true_iff.mp e2 with q1 | q1
          · have : n.toNat = 1 := by have := beq_iff_eq.mp q1; omega
            rw [this]; simp
          · have : z = [] := List.length_eq_zero_iff.mp (beq_iff_eq.mp q1)
            rw [this]; simp
        rw [this] at q
        exact q
      · rw [if_neg e2]
        have ef : List.foldl (fun x1 x2 => x1 ++ x2) #[] (List.replicate n.toNat z.toArray) = (List.replicate n.toNat z).flatten.toArray := by
          have := foldl_cps z n.toNat []
          rw [List.nil_append] at this
          exact this
        show Made.post (Made.str ⟨List.foldl (fun x1 x2 => x1 ++ x2) #[] (List.replicate n.toNat z.toArray)⟩) _ _
        rw [ef]
        refine ⟨?_, .str _, H, I.tok _, ⟨_, rfl⟩, q⟩
        rw [str_len, List.length_flatten, List.map_replicate, List.sum_replicate_nat, sizeLine_eq]
        have : n.toNat * z.length ≤ 1000 * 1000 := Nat.mul_le_mul (by omega) (by omega)
        omega
def rMulAll : R2 := fun x y H Q => rI CMulW (fun i j => .int (i * j)) x y H Q ∨ (rRep x y H Q ∨ rMulS x y H Q)
theorem op_mulAll : OpR X (binaryOp .Mult) rMulAll := op_mulW.or (op_rep.or op_mulS)
theorem rd_mul : Rd2 c rMulAll pMul := by
  intro G H st v w p q z Q S rv rw' h k
  have hn63 : (2 : Int) ^ 63 = 9223372036854775808 := by decide
  cases rv with
  | @int i =>
    cases rw' with
    | @int j =>
      obtain ⟨hl, rfl⟩ := some_ite h
      obtain ⟨h1, h2⟩ := Bool.and_eq_true_iff.mp hl
      have a1 := small_ok h1
      have a2 := small_ok h2
      exact .inl ⟨i, j, rfl, rfl, by show _ < 1000000; omega, rd_now S .int k⟩
    | _ => cases h
  | @lst a vs ps ha ra =>
    cases rw' with
    | @int j =>
      obtain ⟨hl, rfl⟩ := some_ite h
      simp only [Bool.and_eq_true, decide_eq_true_eq] at hl
      obtain ⟨⟨h0, h1⟩, h2⟩ := hl
      refine .inr (.inl ⟨a, j, vs, rfl, rfl, S.lst ha, by omega, by omega, ?_, fun p hp => rd_new S hp (new_lst S hp (ra.rep _)) k⟩)
      rw [ra.len, sizeLine_eq]
      have : ps.length * j.toNat ≤ 1000 * 1000 := Nat.mul_le_mul (by omega) (by omega)
      omega
    | _ => cases h
  | @str a =>
    cases rw' with
    | @int j =>
      obtain ⟨hl, rfl⟩ := some_ite h
      simp only [Bool.and_eq_true, decide_eq_true_eq] at hl
      obtain ⟨⟨h0, h1⟩, h2⟩ := hl
      exact .inr (.inr ⟨a, j, rfl, rfl, h0, h1, h2, rd_now S .str k⟩)
    | _ => cases h
  | _ => cases h
theorem rd_div : Rd2 c (rI CDivW fun i j => .int (i / j)) pDiv := by
  intro G H st v w p q z Q S rv rw' h k
  cases rv with
  | @int i =>
    cases rw' with
    | @int j =>
      obtain ⟨hl, rfl⟩ := some_ite h
      simp only [Bool.and_eq_true, decide_eq_true_eq] at hl
      exact ⟨i, j, rfl, rfl, ⟨hl.1, small_ok hl.2⟩, rd_now S .int k⟩
    | _ => cases h
  | _ => cases h
theorem rd_mod : Rd2 c (rI (fun _ j => 0 < j) fun i j => .int (i % j)) pMod := by
  intro G H st v w p q z Q S rv rw' h k
  cases rv with
  | @int i =>
    cases rw' with
    | @int j =>
      obtain ⟨hl, rfl⟩ := some_ite h
      simp only [decide_eq_true_eq] at hl
      exact ⟨i, j, rfl, rfl, hl, rd_now S .int k⟩
    | _ => cases h
  | _ => cases h
theorem rd_pow : Rd2 c (rI CPow fun i j => .int (i ^ j.toNat)) pPow := by
  intro G H st v w p q z Q S rv rw' h k
  cases rv with
  | @int i =>
    cases rw' with
    | @int j =>
      obtain ⟨hl, rfl⟩ := some_ite h
      simp only [decide_eq_true_eq] at hl
      exact ⟨i, j, rfl, rfl, ⟨hl.1, by omega, hl.2.2⟩, rd_now S .int k⟩
    | _ => cases h
  | _ => cases h
theorem rd_neg : Rd1 c (rU fun i => .int (-i)) pNeg := by
  intro G H st v p z Q S rv h k
  cases rv with
  | @int i =>
    have h : some (PV.int (-i)) = some z := h
    cases h
    exact ⟨i, rfl, rd_now S .int k⟩
  | _ => cases h
/-! ### < <= > >= -/
def rLtS : R2 := fun x y H Q => ∃ i j, x = .str i ∧ y = .str j ∧ Q (.bl (decide (i.cps.toList < j.cps.toList))) H
def rLtAll : R2 := fun x y H Q => rI0 (fun i j => .bl (decide (i < j))) x y H Q ∨ rLtS x y H Q
theorem op_ltAll : OpR X (compareOp .Lt) rLtAll := op_lt.or op_lt_str
theorem rd_lt : Rd2 c rLtAll pLt := by
  intro G H st v w p q z Q S rv rw' h k
  cases rv with
  | @int i =>
    cases rw' with
    | @int j =>
      have h : some (PV.bl (decide (i < j))) = some z := h
      cases h
      exact .inl ⟨i, j, rfl, rfl, rd_now S .bl k⟩
    | _ => cases h
  | @str a =>
    cases rw' with
    | @str b =>
      have h : some (PV.bl (decide (a < b))) = some z := h
      cases h
      refine .inr ⟨_, _, rfl, rfl, ?_⟩
      rw [str_toList, str_toList]
      exact rd_now S .bl k
    | _ => cases h
  | _ => cases h
theorem rd_le : Rd2 c (rI0 fun i j => .bl (decide (i ≤ j))) pLe := by
  intro G H st v w p q z Q S rv rw' h k
  cases rv with
  | @int i =>
    cases rw' with
    | @int j =>
      have h : some (PV.bl (decide (i ≤ j))) = some z := h
      cases h
      exact ⟨i, j, rfl, rfl, rd_now S .bl k⟩
    | _ => cases h
  | _ => cases h
theorem rd_gt : Rd2 c (rI0 fun i j => .bl (decide (j < i))) pGt := by
  intro G H st v w p q z Q S rv rw' h k
  cases rv with
  | @int i =>
    cases rw' with
    | @int j =>
      have h : some (PV.bl (decide (j < i))) = some z := h
      cases h
      exact ⟨i, j, rfl, rfl, rd_now S .bl k⟩
    | _ => cases h
  | _ => cases h
theorem rd_ge : Rd2 c (rI0 fun i j => .bl (decide (j ≤ i))) pGe := by
  intro G H st v w p q z Q S rv rw' h k
  cases rv with
  | @int i =>
    cases rw' with
    | @int j =>
      have h : some (PV.bl (decide (j ≤ i))) = some z := h
      cases h
      exact ⟨i, j, rfl, rfl, rd_now S .bl k⟩
    | _ => cases h
  | _ => cases h
/-! ### == != -/
mutual
def pd : PV → PyData
  | .non => .none
  | .bl b => .bool b
  | .int i => .int i
  | .str s => .str ⟨s.toArray⟩
  | .tup xs => .tuple (pds xs)
  | .lst xs => .list (pds xs)
  | _ => .none
def pds : List PV → List PyData
  | [] => []
  | x :: xs => pd x :: pds xs
end
mutual
theorem pd_can : ∀ (p : PV) (n : Nat), plain n p = true → (pd p).canLay0 = true ∧ (pd p).depth ≤ n
  | .non, _, _ => ⟨rfl, Nat.zero_le _⟩
  | .bl _, _, _ => ⟨rfl, Nat.zero_le _⟩
  | .int _, _, _ => ⟨rfl, Nat.zero_le _⟩
  | .str s, n, h => ⟨by
      have h' : (s.all fun x => decide (x < 1114112)) = true := h
      show (s.toArray.all fun x => decide (x < 0x110000)) = true
      simpa using h', Nat.zero_le _⟩
  | .tup xs, 0, h => by cases h
  | .tup xs, n + 1, h => by
    obtain ⟨h1, h2⟩ := pds_can xs n h
    exact ⟨h1, by show PyData.depthAll (pds xs) + 1 ≤ n + 1; omega⟩
  | .lst xs, 0, h => by cases h
  | .lst xs, n + 1, h => by
    obtain ⟨h1, h2⟩ := pds_can xs n h
    exact ⟨h1, by show PyData.depthAll (pds xs) + 1 ≤ n + 1; omega⟩
  | .dct _ _, _, h => by cases h
  | .ins _ _ _, _, h => by cases h
  | .scr _, _, h => by cases h
  | .wt _, _, h => by cases h
  | .ref _, _, h => by cases h
theorem pds_can : ∀ (ps : List PV) (n : Nat), plains n ps = true → PyData.canLayAll0 (pds ps) = true ∧ PyData.depthAll (pds ps) ≤ n
  | [], _, _ => ⟨rfl, Nat.zero_le _⟩
  | p :: ps, n, h => by
    obtain ⟨h1, h2⟩ := Bool.and_eq_true_iff.mp (show (plain n p && plains n ps) = true from h)
    obtain ⟨a1, a2⟩ := pd_can p n h1
    obtain ⟨b1, b2⟩ := pds_can ps n h2
    exact ⟨by show ((pd p).canLay0 && PyData.canLayAll0 (pds ps)) = true; rw [a1, b1]; rfl, by show max (pd p).depth (PyData.depthAll (pds ps)) ≤ n; omega⟩
end
theorem str_beq (a b : List Nat) : ((⟨a.toArray⟩ : Str) == ⟨b.toArray⟩) = decide (a = b) := by
  by_cases e : a = b
  · subst e
    simp
  · rw [decide_eq_false e]
    exact beq_eq_false_iff_ne.mpr fun z => e (str_inj z)
mutual
theorem pd_eqv : ∀ (p q : PV) (n m : Nat), plain n p = true → plain m q = true → PyData.eqv (pd p) (pd q) = eqv p q
  | .non, q, n, m, hp, hq => by cases q <;> first | rfl | cases hq
  | .bl a, q, n, m, hp, hq => by
    cases q with
    | bl b => rfl
    | int j => show (_ == _) = decide _; rw [Bool.beq_eq_decide_eq]
    | _ => first | rfl | cases hq
  | .int i, q, n, m, hp, hq => by
    cases q with
    | int j => show (i == j) = decide _; rw [Bool.beq_eq_decide_eq]
    | bl b => show (_ == _) = decide _; rw [Bool.beq_eq_decide_eq]
    | _ => first | rfl | cases hq
  | .str s, q, n, m, hp, hq => by
    cases q with
    | str t => exact str_beq s t
    | _ => first | rfl | cases hq
  | .tup xs, q, 0, m, hp, hq => by cases hp
  | .tup xs, q, n + 1, m, hp, hq => by
    cases q with
    | tup ys =>
      cases m with
      | zero => cases hq
      | succ m => exact pds_eqv xs ys n m hp hq
    | _ => first | rfl | cases hq
  | .lst xs, q, 0, m, hp, hq => by cases hp
  | .lst xs, q, n + 1, m, hp, hq => by
    cases q with
    | lst ys =>
      cases m with
      | zero => cases hq
      | succ m => exact pds_eqv xs ys n m hp hq
    | _ => first | rfl | cases hq
  | .dct _ _, _, _, _, h, _ => by cases h
  | .ins _ _ _, _, _, _, h, _ => by cases h
  | .scr _, _, _, _, h, _ => by cases h
  | .wt _, _, _, _, h, _ => by cases h
  | .ref _, _, _, _, h, _ => by cases h
theorem pds_eqv : ∀ (ps qs : List PV) (n m : Nat), plains n ps = true → plains m qs = true → PyData.eqvAll (pds ps) (pds qs) = eqvs ps qs
  | [], [], _, _, _, _ => rfl
  | [], _ :: _, _, _, _, _ => rfl
  | _ :: _, [], _, _, _, _ => rfl
  | p :: ps, q :: qs, n, m, hp, hq => by
    obtain ⟨h1, h2⟩ := Bool.and_eq_true_iff.mp (show (plain n p && plains n ps) = true from hp)
    obtain ⟨g1, g2⟩ := Bool.and_eq_true_iff.mp (show (plain m q && plains m qs) = true from hq)
    show (PyData.eqv (pd p) (pd q) && PyData.eqvAll (pds ps) (pds qs)) = (eqv p q && eqvs ps qs)
    rw [pd_eqv p q n m h1 g1, pds_eqv ps qs n m h2 g2]
end
mutual
theorem dp_of {G : Gh} {H : Hp} {st : Store} (S : SRel c H st G) : ∀ (p : PV) (v : V) (n : Nat), RepV c G v p → plain n p = true → Dp c.K H v (pd p)
  | .non, _, _, r, _ => by cases r; exact .non
  | .bl b, _, _, r, _ => by cases r; exact .bl b
  | .int i, _, _, r, _ => by cases r; exact .int i
  | .str s, _, _, r, _ => by cases r; exact .str _
  | .tup xs, _, 0, r, h => by cases h
  | .tup xs, _, n + 1, r, h => by
    cases r with
    | tup h1 h2 => exact .tup (S.sqT h1) (dps_of S xs _ n h2 h)
  | .lst xs, _, 0, r, h => by cases h
  | .lst xs, _, n + 1, r, h => by
    cases r with
    | lst h1 h2 => exact .lst (SqL.of (S.lst h1)) (dps_of S xs _ n h2 h)
  | .dct _ _, _, _, _, h => by cases h
  | .ins _ _ _, _, _, _, h => by cases h
  | .scr _, _, _, _, h => by cases h
  | .wt _, _, _, _, h => by cases h
  | .ref _, _, _, _, h => by cases h
theorem dps_of {G : Gh} {H : Hp} {st : Store} (S : SRel c H st G) : ∀ (ps : List PV) (vs : List V) (n : Nat), RepVs c G vs ps → plains n ps = true → DpAll c.K H vs (pds ps)
  | [], _, _, r, _ => by cases r; exact .nil
  | p :: ps, _, n, r, h => by
    obtain ⟨h1, h2⟩ := Bool.and_eq_true_iff.mp (show (plain n p && plains n ps) = true from h)
    cases r with
    | cons r1 r2 => exact .cons (dp_of S p _ n r1 h1) (dps_of S ps _ n r2 h2)
end
theorem shaped8 {p : PV} (h : plain 8 p = true) : SeqAt.shaped (pd p) = true := by
  obtain ⟨h1, h2⟩ := pd_can p 8 h
  show ((pd p).canLay0 && decide ((pd p).depth ≤ 64)) = true
  rw [h1, decide_eq_true (by omega)]; rfl
theorem rd_eq : Rd2 c (rEqD c.K) pEq := by
  intro G H st v w p q z Q S rv rw' h k
  obtain ⟨hl, rfl⟩ := some_ite h
  obtain ⟨h1, h2⟩ := Bool.and_eq_true_iff.mp hl
  refine ⟨pd p, pd q, dp_of S p v 8 rv h1, dp_of S q w 8 rw' h2, shaped8 h1, shaped8 h2, ?_⟩
  rw [pd_eqv p q 8 8 h1 h2]
  exact rd_now S .bl k
theorem rd_ne : Rd2 c (rNeD c.K) pNe := by
  intro G H st v w p q z Q S rv rw' h k
  obtain ⟨hl, rfl⟩ := some_ite h
  obtain ⟨h1, h2⟩ := Bool.and_eq_true_iff.mp hl
  refine ⟨pd p, pd q, dp_of S p v 8 rv h1, dp_of S q w 8 rw' h2, shaped8 h1, shaped8 h2, ?_⟩
  rw [pd_eqv p q 8 8 h1 h2]
  exact rd_now S .bl k
/-! ### in, is None -/
theorem strs_vs {G : Gh} : ∀ {xs : List PV} {l : List (List Nat)} {vs : List V}, strs? xs = some l → RepVs c G vs xs → vs = l.map fun s => V.str ⟨s.toArray⟩
  | [], l, vs, h, r => by
    have h : some ([] : List (List Nat)) = some l := h
    cases h
    cases r
    rfl
  | x :: xs, l, vs, h, r => by
    cases r with
    | @cons v _ vs' _ r1 r2 =>
      cases x with
      | str s =>
        have h : (strs? xs).map (fun l => s :: l) = some l := h
        cases e : strs? xs with
        | none => rw [e] at h; cases h
        | some l' =>
          rw [e] at h
          have h : some (s :: l') = some l := h
          cases h
          cases r1
          rw [strs_vs e r2]
          rfl
      | _ => cases h
theorem strs_flat (l : List (List Nat)) : (l.map fun s => V.str ⟨s.toArray⟩).all flatV = true := by
  rw [List.all_map]
  exact List.all_eq_true.mpr fun _ _ => rfl
theorem strs_in (d : List Nat) : ∀ l : List (List Nat), inV (.str ⟨d.toArray⟩) (l.map fun s => V.str ⟨s.toArray⟩) = l.any fun z => decide (z = d)
  | [] => rfl
  | s :: l => by
    have ih := strs_in d l
    unfold inV at ih ⊢
    rw [List.map_cons, List.any_cons, List.any_cons, ih]
    congr 1
    exact str_beq s d
def rInS (neg : Bool) : R2 := fun x y H Q => ∃ (d : Nat) (z : Str), x = .str ⟨#[d]⟩ ∧ y = .str z ∧ Q (.bl (if neg then !decide (d ∈ z.cps.toList) else decide (d ∈ z.cps.toList))) H
def rInAll (K : PySem.W.Frag) (neg : Bool) : R2 := fun x y H Q => rInS neg x y H Q ∨ rIn K neg x y H Q
theorem op_inAll : OpR X (compareOp .In) (rInAll X.K false) := by
  intro pins s σ H x y v u Q I rx ry h
  rcases h with h | h
  · exact op_in_sign pins s σ H x y v u Q I rx ry h
  · exact op_in_seq pins s σ H x y v u Q I rx ry h
theorem op_notInAll : OpR X (compareOp .NotIn) (rInAll X.K true) := by
  intro pins s σ H x y v u Q I rx ry h
  rcases h with h | h
  · exact op_notIn_sign pins s σ H x y v u Q I rx ry h
  · exact op_notIn_seq pins s σ H x y v u Q I rx ry h
theorem inStr_one {d s : List Nat} {b : Bool} (h : inStr d s = some b) : ∃ k, d = [k] ∧ b = decide (k ∈ s) := by
  cases d with
  | nil => cases h
  | cons k r =>
    cases r with
    | nil =>
      have h : some (decide (k ∈ s)) = some b := h
      cases h
      exact ⟨k, rfl, rfl⟩
    | cons _ _ => cases h
theorem rd_in : Rd2 c (rInAll c.K false) pIn := by
  intro G H st v w p q z Q S rv rw' h k
  cases rv with
  | @str d =>
    cases rw' with
    | @str s =>
      have h : (inStr d s).map PV.bl = some z := h
      cases e : inStr d s with
      | none => rw [e] at h; cases h
      | some b =>
        rw [e] at h
        have h : some (PV.bl b) = some z := h
        cases h
        obtain ⟨m, rfl, rfl⟩ := inStr_one e
        refine .inl ⟨m, _, rfl, rfl, ?_⟩
        rw [if_neg Bool.false_ne_true, str_toList]
        exact rd_now S .bl k
    | @tup a vs ps ha ra =>
      have h : (strs? ps).map (fun l => PV.bl (l.any fun z => decide (z = d))) = some z := h
      cases e : strs? ps with
      | none => rw [e] at h; cases h
      | some l =>
        rw [e] at h
        have h : some (PV.bl (l.any fun z => decide (z = d))) = some z := h
        cases h
        have ev := strs_vs e ra
        subst ev
        refine .inr ⟨a, _, rfl, .inr (S.sqT ha), rfl, strs_flat l, ?_⟩
        rw [if_neg Bool.false_ne_true, strs_in]
        exact rd_now S .bl k
    | _ => cases h
  | _ => cases h
theorem rd_notIn : Rd2 c (rInAll c.K true) pNotIn := by
  intro G H st v w p q z Q S rv rw' h k
  cases rv with
  | @str d =>
    cases rw' with
    | @str s =>
      have h : (inStr d s).map (fun b => PV.bl (!b)) = some z := h
      cases e : inStr d s with
      | none => rw [e] at h; cases h
      | some b =>
        rw [e] at h
        have h : some (PV.bl (!b)) = some z := h
        cases h
        obtain ⟨m, rfl, rfl⟩ := inStr_one e
        refine .inl ⟨m, _, rfl, rfl, ?_⟩
        rw [if_pos rfl, str_toList]
        exact rd_now S .bl k
    | @tup a vs ps ha ra =>
      have h : (strs? ps).map (fun l => PV.bl (!(l.any fun z => decide (z = d)))) = some z := h
      cases e : strs? ps with
      | none => rw [e] at h; cases h
      | some l =>
        rw [e] at h
        have h : some (PV.bl (!(l.any fun z => decide (z = d)))) = some z := h
        cases h
        have ev := strs_vs e ra
        subst ev
        refine .inr ⟨a, _, rfl, .inr (S.sqT ha), rfl, strs_flat l, ?_⟩
        rw [if_pos rfl, strs_in]
        exact rd_now S .bl k
    | _ => cases h
  | _ => cases h
theorem isNone_rep {G : Gh} {v : V} {p : PV} (r : RepV c G v p) : decide (v = .non) = p.isNone := by
  cases r <;> first | rfl | exact decide_eq_false (fun z => nomatch z)
theorem rd_isN : Rd2 c (fun x y H Q => y = .non ∧ Q (.bl (decide (x = .non))) H) pIsN := by
  intro G H st v w p q z Q S rv rw' h k
  cases rw' with
  | non =>
    have h : some (PV.bl p.isNone) = some z := h
    cases h
    refine ⟨rfl, ?_⟩
    rw [isNone_rep rv]
    exact rd_now S .bl k
  | _ => cases h
theorem rd_notN : Rd2 c (fun x y H Q => y = .non ∧ Q (.bl (!decide (x = .non))) H) pNotN := by
  intro G H st v w p q z Q S rv rw' h k
  cases rw' with
  | non =>
    have h : some (PV.bl (!p.isNone)) = some z := h
    cases h
    refine ⟨rfl, ?_⟩
    rw [isNone_rep rv]
    exact rd_now S .bl k
  | _ => cases h
/-! ### subscripts -/
theorem atI_map {α β : Type} (f : α → β) (xs : List α) (i : Int) : L2.atI (xs.map f) i = (L2.atI xs i).map f := by
  unfold L2.atI
  rw [List.length_map]
  cases ixN xs.length i with
  | none => rfl
  | some k => simp
theorem rd_ix : Rd2 c (rIx c.K) pIdx := by
  intro G H st v w p q z Q S rv rw' h k
  cases rw' with
  | @int i =>
    cases rv with
    | @tup a vs ps ha ra =>
      obtain ⟨v, h1, h2⟩ := ra.atI (show L2.atI ps i = some z from h)
      exact .inr (.inl ⟨a, vs, i, v, rfl, rfl, S.sqT ha, h1, rd_now S h2 k⟩)
    | @lst a vs ps ha ra =>
      obtain ⟨v, h1, h2⟩ := ra.atI (show L2.atI ps i = some z from h)
      exact .inl ⟨a, vs, i, v, rfl, rfl, SqL.of (S.lst ha), h1, rd_now S h2 k⟩
    | @scr a ns ha =>
      have h : (L2.atI ns i).map PV.int = some z := h
      cases e : L2.atI ns i with
      | none => rw [e] at h; cases h
      | some n =>
        rw [e] at h
        have h : some (PV.int n) = some z := h
        cases h
        exact .inl ⟨a, _, i, .int n, rfl, rfl, S.sqL ha, by rw [atI_map, e]; rfl, rd_now S .int k⟩
    | @str s =>
      by_cases hl : s.length ≤ lim
      · have h : (if s.length ≤ lim then (L2.atI s i).map fun c => PV.str [c] else none) = some z := h
        rw [if_pos hl] at h
        cases e : L2.atI s i with
        | none => rw [e] at h; cases h
        | some n =>
          rw [e] at h
          have h : some (PV.str [n]) = some z := h
          cases h
          refine .inr (.inr ⟨_, i, n, rfl, rfl, by rw [str_len]; exact lim_line hl, by rw [str_toList]; exact e, ?_⟩)
          exact rd_now S (.str (s := [n])) k
      · have h : (if s.length ≤ lim then (L2.atI s i).map fun c => PV.str [c] else none) = some z := h
        rw [if_neg hl] at h
        cases h
    | _ => cases h
  | _ => cases rv <;> cases h
/-! ### built-ins -/
theorem rep1 {G : Gh} {vs : List V} {p : PV} (r : RepVs c G vs [p]) : ∃ v, vs = [v] ∧ RepV c G v p := by
  cases r with
  | cons r1 r2 => cases r2; exact ⟨_, rfl, r1⟩
theorem rd_abs : RdN c (fun xs H Q => ∃ i, xs = [.int i] ∧ Q (.int (if i < 0 then -i else i)) H) nAbs := by
  intro G H st vs ps z Q S r h k
  cases ps with
  | nil => cases h
  | cons p ps =>
    cases ps with
    | cons _ _ => cases p <;> cases h
    | nil =>
      obtain ⟨v, rfl, r1⟩ := rep1 r
      cases r1 with
      | @int i =>
        have h : some (PV.int (if i < 0 then -i else i)) = some z := h
        cases h
        exact ⟨i, rfl, rd_now S .int k⟩
      | _ => cases h
def rLenA (K : PySem.W.Frag) : List V → Hp → VK → Prop := fun xs H Q => ∃ x n, xs = [x] ∧ LenV K x H n ∧ Q (.int n) H
theorem rd_len : RdN c (rLenA c.K) nLen := by
  intro G H st vs ps z Q S r h k
  cases ps with
  | nil => cases h
  | cons p ps =>
    cases ps with
    | cons _ _ => cases p <;> cases h
    | nil =>
      obtain ⟨v, rfl, r1⟩ := rep1 r
      cases r1 with
      | @tup a vs ps ha ra =>
        have h : some (PV.int ps.length) = some z := h
        cases h
        exact ⟨_, ps.length, rfl, .inr ⟨vs, S.sqT ha, ra.len.symm⟩, rd_now S .int k⟩
      | @lst a vs ps ha ra =>
        have h : some (PV.int ps.length) = some z := h
        cases h
        exact ⟨_, ps.length, rfl, .inl ⟨vs, SqL.of (S.lst ha), ra.len.symm⟩, rd_now S .int k⟩
      | @scr a ns ha =>
        have h : some (PV.int ns.length) = some z := h
        cases h
        exact ⟨_, ns.length, rfl, .inl ⟨_, S.sqL ha, by rw [List.length_map]⟩, rd_now S .int k⟩
      | @str s =>
        obtain ⟨hl, rfl⟩ := some_ite h
        exact ⟨_, s.length, rfl, ⟨by rw [str_len]; exact lim_line hl, str_len s⟩, rd_now S .int k⟩
      | _ => cases h
def rInt : List V → Hp → VK → Prop := fun xs H Q => (∃ i, xs = [.int i] ∧ Q (.int i) H) ∨ ∃ a n, xs = [.str a] ∧ PySem.intText? a = some n ∧ a.length ≤ 640 ∧ Q (.int n) H
theorem call_intA : CallR X (.type "int") rInt := by
  intro pins s σ H xs us Q I rs h
  rcases h with h | h
  · exact call_int1 pins s σ H xs us Q I rs (.inl h)
  · exact call_int_str pins s σ H xs us Q I rs h
theorem digit_text (k : Nat) (h : 48 ≤ k ∧ k ≤ 57) : PySem.intText? ⟨#[k]⟩ = some ((k : Int) - 48) := by
  have : k = 48 ∨ k = 49 ∨ k = 50 ∨ k = 51 ∨ k = 52 ∨ k = 53 ∨ k = 54 ∨ k = 55 ∨ k = 56 ∨ k = 57 := by omega
  rcases this with rfl | rfl | rfl | rfl | rfl | rfl | rfl | rfl | rfl | rfl <;> decide +kernel
theorem rd_int : RdN c rInt nInt := by
  intro G H st vs ps z Q S r h k
  cases ps with
  | nil => cases h
  | cons p ps =>
    cases ps with
    | cons _ _ => cases p <;> first | cases h | (rename_i s; cases s <;> first | cases h | (rename_i _ t; cases t <;> cases h))
    | nil =>
      obtain ⟨v, rfl, r1⟩ := rep1 r
      cases r1 with
      | @int i =>
        have h : some (PV.int i) = some z := h
        cases h
        exact .inl ⟨i, rfl, rd_now S .int k⟩
      | @str s =>
        cases s with
        | nil => cases h
        | cons d t =>
          cases t with
          | cons _ _ => cases h
          | nil =>
            obtain ⟨hl, rfl⟩ := some_ite h
            have hl := of_decide_eq_true hl
            exact .inr ⟨_, _, rfl, digit_text d hl, Nat.le_trans (show 1 ≤ 1 from Nat.le_refl 1) (by decide), rd_now S .int k⟩
      | _ => cases h
theorem digit_str (i : Int) (h : 0 ≤ i ∧ i < 10) : (Str.ofString (toString i)) = (⟨[i.toNat + 48].toArray⟩ : Str) := by
  have : i = 0 ∨ i = 1 ∨ i = 2 ∨ i = 3 ∨ i = 4 ∨ i = 5 ∨ i = 6 ∨ i = 7 ∨ i = 8 ∨ i = 9 := by omega
  rcases this with rfl | rfl | rfl | rfl | rfl | rfl | rfl | rfl | rfl | rfl <;> decide +kernel
theorem rd_str : RdN c (fun xs H Q => ∃ i, xs = [.int i] ∧ i.natAbs.log2 < 1920 ∧ Q (.str (toString i)) H) nStr := by
  intro G H st vs ps z Q S r h k
  cases ps with
  | nil => cases h
  | cons p ps =>
    cases ps with
    | cons _ _ => cases p <;> cases h
    | nil =>
      obtain ⟨v, rfl, r1⟩ := rep1 r
      cases r1 with
      | @int i =>
        obtain ⟨hl, rfl⟩ := some_ite h
        have hl := of_decide_eq_true hl
        refine ⟨i, rfl, ?_, ?_⟩
        · have : i.natAbs < 2 ^ 4 := by omega
          exact Nat.lt_of_lt_of_le (PySem.Flt.log2_lt_of (by decide) this) (by decide)
        · show Q (.str (Str.ofString (toString i))) H
          rw [digit_str i hl]
          exact rd_now S .str k
      | _ => cases h
theorem rd_tuple : RdN c (rTupN c.K) nTuple := by
  intro G H st vs ps z Q S r h k
  cases ps with
  | nil => cases h
  | cons p ps =>
    cases ps with
    | cons _ _ => cases p <;> cases h
    | nil =>
      obtain ⟨v, rfl, r1⟩ := rep1 r
      cases r1 with
      | @tup a vs ps ha ra =>
        have h : some (PV.tup ps) = some z := h
        cases h
        exact ⟨a, vs, rfl, .inr ⟨S.sqT ha, rd_now S (.tup ha ra) k⟩⟩
      | @lst a vs ps ha ra =>
        have h : some (PV.tup ps) = some z := h
        cases h
        exact ⟨a, vs, rfl, .inl ⟨SqL.of (S.lst ha), fun l o hl hd => rd_new S hl (new_tup S hl hd ra) k⟩⟩
      | _ => cases h
end
end BR
set_option Elab.async false
set_option linter.all false
set_option maxRecDepth 100000
/-! BrE: defs and calls, targets, loops, comprehensions. -/
namespace BR
open PySem PySem.Spec PyProof.Rows L2
/-! ### a def's promise is its run -/
def spF (c : Cn) (run : List PV → Store → R SV) : Sp := fun vs H Q E => ∃ ps st G, SRel c H st G ∧ RepVs c G vs ps ∧ Out c (rpF c) G H Q E (run ps st)
theorem runFn_args {T : Nat → Option Fn} {k id : Nat} {fn : Fn} {ps : List PV} {st : Store} (hT : T id = some fn) (h : runFn T k id ps st ≠ .bad) : ps.length = fn.ps := by
  cases k with
  | zero => exact absurd rfl h
  | succ k =>
    unfold runFn at h
    rw [hT] at h
    by_cases e : ps.length = fn.ps
    · exact e
    · exact absurd (if_neg e) h
theorem Out.notBad {α β : Type} {c : Cn} {rep : Hp → Gh → Hp → β → α → Prop} {G : Gh} {H : Hp} {Q : β → Hp → Prop} {E : XK} {r : R α} (h : Out c rep G H Q E r) : r ≠ .bad := fun e => by rw [e] at h; exact h
section
variable {P : Program} {w : World} {K : PySem.W.Frag} {mg : Str → Option Value} {base : Heap} {cm : Nat → Option Addr} {T : Nat → Option Fn}
theorem slot_start (c : Cn) {B : Bs} {G : Gh} {H : Hp} : ∀ {vs : List V} {ps : List PV} (n : Nat) (i : Nat) (sv : SV) (x : Option V), RepVs c G vs ps → (ps.map SV.val ++ List.replicate n SV.un)[i]? = some sv → (vs.map some ++ List.replicate n (none : Option V))[i]? = some x → SlotOk c B G H x sv ∧ sv.isOwn = false := by
  intro vs ps n i sv x r h1 h2
  by_cases hi : i < ps.length
  · rw [List.getElem?_append_left (by simpa using hi), List.getElem?_map] at h1
    rw [List.getElem?_append_left (by simpa [r.len] using hi), List.getElem?_map] at h2
    cases e : ps[i]? with
    | none => rw [e] at h1; cases h1
    | some p =>
      obtain ⟨v, hv, rv⟩ := r.get e
      rw [e] at h1
      rw [hv] at h2
      cases h1
      cases h2
      exact ⟨⟨v, rfl, rv⟩, rfl⟩
  · rw [List.getElem?_append_right (by simpa using Nat.le_of_not_lt hi), List.getElem?_replicate] at h1
    split at h1
    · cases h1
      exact ⟨trivial, rfl⟩
    · cases h1
theorem ok_def {x qual : Str} {params : Arguments} {body : List Stmt} {scope : Scope} {f : Addr} {fd : FuncData} {N ps : List Str} {j k id : Nat} {fn : Fn} (F : FunD K x qual params body scope [] [] f fd) (S : FnScope N ps scope) (hT : T id = some fn) (hini : fn.ini = none) (hps : fn.ps = ps.length) (hn : fn.n = N.length)
    (hbody : ∀ (cdv : Value) (A : Around) (outer : List PySem.Env) (s : Shared) (H : Hp) (E : XK), Room j (A.deeper (envOfC qual scope s.heap.objs.size f cdv)) →
      CSs cm (cxOf (L2.CX P w) P w K mg base N qual scope f cdv A outer s H E) (fun cls d _ H' => E cls d H') (fn.body (runFn T k)) body) :
    FnOk P w K mg base (L2.CX P w) (j + 1) f fd ps (spF ⟨P, w, K, cm⟩ (runFn T (k + 1) id)) := by
  refine F.ok S (fun vs H Q E h => ?_) (fun cdv A outer s H vs Q E hr h => ?_)
  · obtain ⟨qs, st, G, _, r, h⟩ := h
    rw [r.len, runFn_args hT h.notBad, hps]
  · obtain ⟨qs, st, G, S0, r, h⟩ := h
    have hl : qs.length = fn.ps := runFn_args hT h.notBad
    have e1 : startE fn qs = qs.map SV.val ++ List.replicate (fn.n - fn.ps) SV.un := by unfold startE; rw [hini]
    have e2 : L2.start N vs = vs.map some ++ List.replicate (fn.n - fn.ps) (none : Option V) := by unfold L2.start; rw [r.len, hl, hn]
    have R0 : Rel ⟨P, w, K, cm⟩ ⟨G, H, none⟩ (L2.start N vs) (startE fn qs) H st G := by
      refine ⟨S0, .refl G H, ?_, fun i sv x h1 h2 => ?_, fun i j sv sw a h1 h2 h3 h4 h5 h6 => ?_⟩
      · rw [e1, e2]
        simp [r.len]
      · rw [e1] at h1
        rw [e2] at h2
        exact (slot_start _ _ i sv x r h1 h2).1
      · rw [e1] at h1
        rw [e2] at h5
        have z := (slot_start ⟨P, w, K, cm⟩ (B := ⟨G, H, none⟩) (H := H) _ i sv _ r h1 h5).2
        rw [h3] at z
        cases z
    refine ⟨_, hbody cdv A outer s H E hr, ⟨⟨G, H, none⟩, startE fn qs, st, G, R0, ?_⟩⟩
    unfold runFn at h
    rw [hT] at h
    simp only [hl, if_true, hini] at h
    generalize hr : fn.body (runFn T k) (startE fn qs) st = rr at h
    cases rr with
    | next ρ st1 => exact fun σ' H' G' ex R' => h H' G' .non R'.base R'.toSRel .non
    | ret sv st1 => exact fun H' G' x ex S' s' rp => h H' G' x s' S' rp
    | ex cl ns vs ρ st1 => exact fun σ' H' G' cls d ex R' er => h H' G' cls d R'.base R'.toSRel er
    | brk _ _ => exact h.elim
    | cnt _ _ => exact h.elim
    | bad => exact h.elim
end
/-! ### calls -/
section
variable {cm : Nat → Option Addr} {X : Cx} {W : WX} {pos p : Pos} {call : CallT} {id k : Nat} {f : Addr} {fd : FuncData} {ps : List Str} {x : Str} {ar : AM} {e : Expr} {es : List Expr}
theorem cf_call (F : FnOk X.prog X.w X.K X.mg X.base (L2.CX X.prog X.w) k f fd ps (spF (cnOf X cm) (call id))) (hr : Room k X.A) (hm : X.mg x = some (.ref f)) (hk : PySem.W.keepIn X.K (.ref f) = true) (hb : Binds X.K fd ps []) (tk : Takes X W) (ha : CA cm X W ar (e :: es))
    (hg : Gl X x := by rfl) (hdb : (x == ("__debug__" : Str)) = false := by decide) (he : starEach (e :: es) X.env = (false, eval e X.env) :: starEach es X.env := by rfl) (hpl : (backTo pos (starEach es X.env)).any (·.1) = false := by rfl) :
    CF cm X W (fCall call id ar) (.Call (.Name x p) (e :: es) [] pos) := PE.weak (pe_callS F hr hg hm hk hb (passAt tk) ha hdb he hpl) fun σ H Q ⟨B, ρ, st, G, R, h⟩ =>
  ⟨B, ρ, st, G, R, Out.bindR early_F R h fun qs st1 H1 G1 xs s1 R1 rx h1 => ⟨qs, st1, G1, R1.toSRel, rx, h1⟩⟩
end
/-! ### targets -/
/-- own: the slots that the target stores -/
def tG (c : Cn) (own : List Nat) (g : GM) : TG := fun v σ H Q => ∃ B ρ st G p, Rel c B σ ρ H st G ∧ RepV c G v p ∧ ∃ ρ1 st1, g p ρ st = some (ρ1, st1) ∧ ∀ σ1 H1 G1, GExt G G1 → σ1.length = σ.length → (∀ j, j ∉ own → σ1[j]? = σ[j]?) → Rel c B σ1 ρ1 H1 st1 G1 → Q σ1 H1
def tGs (c : Cn) (own : List Nat) (gs : List GM) : TGs := fun vs σ H Q => ∃ B ρ st G ps, Rel c B σ ρ H st G ∧ RepVs c G vs ps ∧ ∃ ρ1 st1, gEach gs ps ρ st = some (ρ1, st1) ∧ ∀ σ1 H1 G1, GExt G G1 → σ1.length = σ.length → (∀ j, j ∉ own → σ1[j]? = σ[j]?) → Rel c B σ1 ρ1 H1 st1 G1 → Q σ1 H1
def CG (cm : Nat → Option Addr) (X : Cx) (own : List Nat) (g : GM) (e : Expr) : Prop := PG X e (tG (cnOf X cm) own g)
def CGs (cm : Nat → Option Addr) (X : Cx) (own : List Nat) (gs : List GM) (es : List Expr) : Prop := PGs X es (tGs (cnOf X cm) own gs)
theorem PG.weak {X : Cx} {e : Expr} {t t' : TG} (h : PG X e t) (w : ∀ v σ H Q, t' v σ H Q → t v σ H Q) : PG X e t' := ⟨fun pins s σ H v u Q I r q => h.run pins s σ H v u Q I r (w v σ H Q q)⟩
theorem PGs.weak {X : Cx} {e : List Expr} {t t' : TGs} (h : PGs X e t) (w : ∀ v σ H Q, t' v σ H Q → t v σ H Q) : PGs X e t' := ⟨fun pins s σ H v u Q I r q => h.run pins s σ H v u Q I r (w v σ H Q q)⟩
section
variable {cm : Nat → Option Addr} {X : Cx} {W : WX} {pos : Pos} {x : Str}
/-- a target that stores names alone -/
def tGp (c : Cn) (own : List Nat) (g : GM) : TG := fun v σ H Q => ∃ B ρ st G p, Rel c B σ ρ H st G ∧ RepV c G v p ∧ ∃ ρ1, g p ρ st = some (ρ1, st) ∧ ∀ σ1, σ1.length = σ.length → (∀ j, j ∉ own → σ1[j]? = σ[j]?) → Rel c B σ1 ρ1 H st G → Q σ1 H
def tGps (c : Cn) (own : List Nat) (gs : List GM) : TGs := fun vs σ H Q => ∃ B ρ st G ps, Rel c B σ ρ H st G ∧ RepVs c G vs ps ∧ ∃ ρ1, gEach gs ps ρ st = some (ρ1, st) ∧ ∀ σ1, σ1.length = σ.length → (∀ j, j ∉ own → σ1[j]? = σ[j]?) → Rel c B σ1 ρ1 H st G → Q σ1 H
structure CGp (cm : Nat → Option Addr) (X : Cx) (own : List Nat) (g : GM) (e : Expr) : Prop where
  pure : ∀ p ρ st z, g p ρ st = some z → z.2 = st
  run : PG X e (tGp (cnOf X cm) own g)
structure CGps (cm : Nat → Option Addr) (X : Cx) (own : List Nat) (gs : List GM) (es : List Expr) : Prop where
  pure : ∀ p ρ st z, gEach gs p ρ st = some z → z.2 = st
  run : PGs X es (tGps (cnOf X cm) own gs)
theorem cg_of {own : List Nat} {g : GM} {e : Expr} (h : CGp cm X own g e) : CG cm X own g e := PG.weak h.run fun v σ H Q ⟨B, ρ, st, G, p, R, rv, ρ1, st1, e, k⟩ => by
  have q := h.pure p ρ st _ e
  subst q
  exact ⟨B, ρ, _, G, p, R, rv, ρ1, e, fun σ1 l1 k1 R1 => k σ1 H G (.refl G) l1 k1 R1⟩
theorem cgp_name (i : Nat) (hN : X.N.Nodup) (hi : X.N[i]? = some x := by rfl) (hx : Loc X.env.scope x := by first | exact .inl rfl | exact .inr rfl) (hf : X.fn x = true ∨ X.env.scope.names.lookup x = some .local := by first | exact .inl rfl | exact .inr rfl | assumption) : CGp cm X [i] (gName i) (.Name x pos) :=
  ⟨fun p ρ st z h => by
    have h : some (ρ.set i (.val p), st) = some z := h
    cases h; rfl, PG.weak (pg_name hN hi hx hf) fun v σ H Q ⟨B, ρ, st, G, p, R, rv, ρ1, e, h⟩ => by
    have e : some (ρ.set i (.val p), st) = some (ρ1, st) := e
    cases e
    exact h _ (by simp) (fun j hj => by rw [List.getElem?_set_ne (by intro z; exact hj (by simp [z]))]) (R.setF (sv := .val p) (.refl G H) R.toSRel rv)⟩
theorem cgps_nil : CGps cm X [] [] [] := by
  refine ⟨fun p ρ st z h => ?_, PGs.weak pgs_nil fun vs σ H Q ⟨B, ρ, st, G, ps, R, rv, ρ1, e, h⟩ => ?_⟩
  · cases p with
    | nil =>
      have h : some (ρ, st) = some z := h
      cases h
      rfl
    | cons _ _ => cases h
  · cases rv with
    | nil =>
      have e : some (ρ, st) = some (ρ1, st) := e
      cases e
      exact ⟨rfl, h σ rfl (fun _ _ => rfl) R⟩
    | cons _ _ => cases e
theorem cgps_cons {o1 o2 : List Nat} {g : GM} {gs : List GM} {e : Expr} {es : List Expr} (h1 : CGp cm X o1 g e) (h2 : CGps cm X o2 gs es) (hs : (assignEach (e :: es) X.env).map (·.2) = assign e X.env :: (assignEach es X.env).map (·.2) := by rfl) : CGps cm X (o1 ++ o2) (g :: gs) (e :: es) := by
  have each : ∀ p ps ρ st z, gEach (g :: gs) (p :: ps) ρ st = some z → ∃ ρ2, g p ρ st = some (ρ2, st) ∧ gEach gs ps ρ2 st = some z ∧ z.2 = st := fun p ps ρ st z h => by
    have h : (g p ρ st).bind (fun z => gEach gs ps z.1 z.2) = some z := h
    cases e1 : g p ρ st with
    | none => rw [e1] at h; cases h
    | some y =>
      obtain ⟨ρ2, st2⟩ := y
      have q := h1.pure p ρ st _ e1
      have q : st2 = st := q
      subst q
      rw [e1] at h
      exact ⟨ρ2, rfl, h, h2.pure _ _ _ _ h⟩
  refine ⟨fun p ρ st z h => ?_, PGs.weak (pgs_cons h1.run h2.run hs) fun vs σ H Q ⟨B, ρ, st, G, ps, R, rv, ρ1, e, h⟩ => ?_⟩
  · cases p with
    | nil => cases h
    | cons p ps => exact (each p ps ρ st z h).choose_spec.2.2
  · cases rv with
    | nil => cases e
    | @cons v p vs ps r1 r2 =>
      obtain ⟨ρ2, e1, e2, _⟩ := each p ps ρ st _ e
      refine ⟨v, vs, rfl, B, ρ, st, G, p, R, r1, ρ2, e1, fun σ2 l2 k2 R2 => ⟨B, ρ2, st, G, ps, R2, r2, ρ1, e2, fun σ3 l3 k3 R3 => h σ3 (l3.trans l2) (fun j hj => ?_) R3⟩⟩
      rw [k3 j fun z => hj (List.mem_append_right _ z), k2 j fun z => hj (List.mem_append_left _ z)]
theorem gEach_len : ∀ (gs : List GM) (ps : List PV) (ρ : Env) (st : Store) (z : Env × Store), gEach gs ps ρ st = some z → gs.length = ps.length
  | [], [], _, _, _, _ => rfl
  | [], _ :: _, _, _, _, h => by cases h
  | _ :: _, [], _, _, _, h => by cases h
  | g :: gs, p :: ps, ρ, st, z, h => by
    have h : (g p ρ st).bind (fun z => gEach gs ps z.1 z.2) = some z := h
    cases e1 : g p ρ st with
    | none => rw [e1] at h; cases h
    | some y => rw [e1] at h; rw [List.length_cons, List.length_cons, gEach_len gs ps _ _ _ h]
/-- (a, b, ..) = a tuple or a list -/
def gTL (K : PySem.W.Frag) (n : Nat) (t : TGs) : TG := fun v σ H Q => ∃ a xs, v = .ref a ∧ (SqT K H a xs ∨ SqL K H a xs) ∧ xs.length = n ∧ t xs σ H Q
theorem pg_TL {es : List Expr} {k : Nat} {t : TGs} {n : Nat} (hc : X.calm = true) (h : PGs X es t)
    (hn : (assignEach es X.env).length = n) (hst : (assignEach es X.env).findIdx? (·.1) = none) : PG X (.Tuple es k pos) (gTL X.K n t) :=
  ⟨fun pins s σ H v u Q I r hw => by
    obtain ⟨a, xs, e, hq, hl, hw⟩ := hw
    rcases hq with hq | hq
    · exact (pg_tup hc h hn hst).run pins s σ H v u Q I r ⟨a, xs, e, hq, hl, hw⟩
    · exact (pg_unl hc h hn hst).run pins s σ H v u Q I r ⟨a, xs, e, hq, hl, hw⟩⟩
theorem cgp_tup {own : List Nat} {gs : List GM} {es : List Expr} {k : Nat} (hc : X.calm = true) (h : CGps cm X own gs es) (hl : gs.length = es.length := by rfl) (hn : (assignEach es X.env).length = es.length := by rfl) (hst : (assignEach es X.env).findIdx? (·.1) = none := by rfl) : CGp cm X own (gTup gs) (.Tuple es k pos) := by
  refine ⟨fun p ρ st z h' => ?_, PG.weak (pg_TL hc h.run hn hst) fun v σ H Q ⟨B, ρ, st, G, p, R, rv, ρ1, e, h⟩ => ?_⟩
  · cases p with
    | tup ps => exact h.pure ps ρ st z h'
    | wt ps => exact h.pure ps ρ st z h'
    | lst ps => exact h.pure ps ρ st z h'
    | _ => cases h'
  · cases rv with
    | @tup a vs ps ha ra =>
      have e : gEach gs ps ρ st = some (ρ1, st) := e
      exact ⟨a, vs, rfl, .inl (R.sqT ha), by rw [ra.len, ← gEach_len _ _ _ _ _ e, hl], B, ρ, st, G, ps, R, ra, ρ1, e, h⟩
    | @wt a vs ps ha ra =>
      have e : gEach gs ps ρ st = some (ρ1, st) := e
      exact ⟨a, vs, rfl, .inl (R.sqW ha), by rw [ra.len, ← gEach_len _ _ _ _ _ e, hl], B, ρ, st, G, ps, R, ra, ρ1, e, h⟩
    | @lst a vs ps ha ra =>
      have e : gEach gs ps ρ st = some (ρ1, st) := e
      exact ⟨a, vs, rfl, .inr (R.sqL (.inl (.inl ha))), by rw [ra.len, ← gEach_len _ _ _ _ _ e, hl], B, ρ, st, G, ps, R, ra, ρ1, e, h⟩
    | _ => cases e
theorem cgs_nil : CGs cm X [] [] [] := PGs.weak pgs_nil fun vs σ H Q ⟨B, ρ, st, G, ps, R, rv, ρ1, st1, e, h⟩ => by
  cases rv with
  | nil =>
    have e : some (ρ, st) = some (ρ1, st1) := e
    cases e
    exact ⟨rfl, h σ H G (.refl G) rfl (fun _ _ => rfl) R⟩
  | cons _ _ => cases e
theorem cgs_cons {o1 o2 : List Nat} {g : GM} {gs : List GM} {e : Expr} {es : List Expr} (h1 : CG cm X o1 g e) (h2 : CGs cm X o2 gs es) (hs : (assignEach (e :: es) X.env).map (·.2) = assign e X.env :: (assignEach es X.env).map (·.2) := by rfl) : CGs cm X (o1 ++ o2) (g :: gs) (e :: es) :=
  PGs.weak (pgs_cons h1 h2 hs) fun vs σ H Q ⟨B, ρ, st, G, ps, R, rv, ρ1, st1, e, h⟩ => by
    cases rv with
    | nil => cases e
    | @cons v p vs ps r1 r2 =>
      refine ⟨v, vs, rfl, B, ρ, st, G, p, R, r1, ?_⟩
      have e : (g p ρ st).bind (fun z => gEach gs ps z.1 z.2) = some (ρ1, st1) := e
      cases e1 : g p ρ st with
      | none => rw [e1] at e; cases e
      | some z =>
        obtain ⟨ρ2, st2⟩ := z
        rw [e1] at e
        refine ⟨ρ2, st2, rfl, fun σ2 H2 G2 x2 l2 k2 R2 => ⟨B, ρ2, st2, G2, ps, R2, r2.up x2, ρ1, st1, e, fun σ3 H3 G3 x3 l3 k3 R3 => h σ3 H3 G3 (x2.trans x3) (l3.trans l2) (fun j hj => ?_) R3⟩⟩
        rw [k3 j fun z => hj (List.mem_append_right _ z), k2 j fun z => hj (List.mem_append_left _ z)]
theorem cg_tup {own : List Nat} {gs : List GM} {es : List Expr} {k : Nat} (hc : X.calm = true) (h : CGs cm X own gs es) (hl : gs.length = es.length := by rfl) (hn : (assignEach es X.env).length = es.length := by rfl) (hst : (assignEach es X.env).findIdx? (·.1) = none := by rfl) : CG cm X own (gTup gs) (.Tuple es k pos) :=
  PG.weak (pg_TL hc h hn hst) fun v σ H Q ⟨B, ρ, st, G, p, R, rv, ρ1, st1, e, h⟩ => by
    cases rv with
    | @tup a vs ps ha ra =>
      have e : gEach gs ps ρ st = some (ρ1, st1) := e
      exact ⟨a, vs, rfl, .inl (R.sqT ha), by rw [ra.len, ← gEach_len _ _ _ _ _ e, hl], B, ρ, st, G, ps, R, ra, ρ1, st1, e, h⟩
    | @wt a vs ps ha ra =>
      have e : gEach gs ps ρ st = some (ρ1, st1) := e
      exact ⟨a, vs, rfl, .inl (R.sqW ha), by rw [ra.len, ← gEach_len _ _ _ _ _ e, hl], B, ρ, st, G, ps, R, ra, ρ1, st1, e, h⟩
    | @lst a vs ps ha ra =>
      have e : gEach gs ps ρ st = some (ρ1, st1) := e
      exact ⟨a, vs, rfl, .inr (R.sqL (.inl (.inl ha))), by rw [ra.len, ← gEach_len _ _ _ _ _ e, hl], B, ρ, st, G, ps, R, ra, ρ1, st1, e, h⟩
    | _ => cases e
/-- target = value, any target -/
theorem cs_asg {own : List Nat} {tg e : Expr} {m : EM} {g : GM} (he : CE cm X W m e) (hg : CG cm X own g tg) (hs : swapsWithSole [tg] e pos.line X.env = pure false := by rfl) (hw : swappedStores [tg] e X.env = pure none := by rfl)
    (h1 : (assignEach [tg] X.env).map (·.2) = [assign tg X.env] := by rfl) : CS cm X W (sAsg m g) (.Assign [tg] e pos) := PS.weak (ps_asg he hg hs hw h1) fun D σ H ⟨B, ρ, st, G, R, h⟩ =>
  ⟨B, ρ, st, G, R, OutS.bind R h fun p st1 H1 G1 x s1 R1 rx h1 => by
    cases eg : g p ρ st1 with
    | none => rw [eg] at h1; exact h1.elim
    | some z =>
      obtain ⟨ρ2, st2⟩ := z
      rw [eg] at h1
      exact ⟨B, ρ, st1, G1, p, R1, rx, ρ2, st2, eg, fun σ2 H2 G2 x2 _ _ R2 => h1 σ2 H2 G2 x2 R2⟩⟩
/-! ### loops -/
/-- what is walked yields these items -/
def Walks (c : Cn) (J : It) (xs : List PV) (G1 : Gh) : Prop := ∀ (i : Nat) (H : Hp) (G : Gh) (st : Store), GExt G1 G → SRel c H st G → (∀ p, xs[i]? = some p → J.go i H ∧ ∀ x H', J.yld i H x H' → ∃ G', Stp G H G' H' ∧ SRel c H' st G' ∧ RepV c G' x p) ∧ (xs.length = i → J.stop i H)
def tI (c : Cn) (W : WX) (m : AM) : TI := fun σ H R => ∃ B ρ st G, Rel c B σ ρ H st G ∧ Out c (fun _ G' _ (J : It) xs => Walks c J xs G') G H R (fun cls d H' => W cls d σ H') (m ρ st)
def CI (cm : Nat → Option Addr) (X : Cx) (W : WX) (m : AM) (tg iter : Expr) : Prop := PI X tg iter (tI (cnOf X cm) W m)
theorem PI.weak {X : Cx} {tg e : Expr} {t t' : TI} (h : PI X tg e t) (w : ∀ σ H Q, t' σ H Q → t σ H Q) : PI X tg e t' := ⟨fun pins s σ H Q I q => h.run pins s σ H Q I (w σ H Q q)⟩
variable {tg it : Expr} {m : EM}
theorem walks_list {c : Cn} {G : Gh} {a : Addr} {vs : List V} {ps : List PV} (ha : G.fz a = some (.lst vs)) (ra : RepVs c G vs ps) : Walks c (Itl c.K a) ps G := fun i H G2 st x2 S2 => by
  have hs : SqL c.K H a vs := SqL.of (S2.fzH _ _ (x2.fz _ _ ha))
  refine ⟨fun p hp => ?_, fun hi => ⟨vs, hs, by rw [ra.len]; exact Nat.le_of_eq hi⟩⟩
  obtain ⟨v, hv, r⟩ := ra.get hp
  refine ⟨⟨vs, v, hs, hv⟩, fun x H' y => ?_⟩
  obtain ⟨rfl, y⟩ := y
  have := y vs hs
  rw [hv] at this
  cases this
  exact ⟨G2, .refl _ _, S2, r.up x2⟩
theorem walks_tup {c : Cn} {G : Gh} {a : Addr} {vs : List V} {ps : List PV} (ha : TupN G.fz a vs) (ra : RepVs c G vs ps) : Walks c (Itt c.K a) ps G := fun i H G2 st x2 S2 => by
  have hs : SqT c.K H a vs := S2.sqT (ha.up x2.fz)
  refine ⟨fun p hp => ?_, fun hi => ⟨vs, hs, by rw [ra.len]; exact Nat.le_of_eq hi⟩⟩
  obtain ⟨v, hv, r⟩ := ra.get hp
  refine ⟨⟨vs, v, hs, hv⟩, fun x H' y => ?_⟩
  obtain ⟨rfl, y⟩ := y
  have := y vs hs
  rw [hv] at this
  cases this
  exact ⟨G2, .refl _ _, S2, r.up x2⟩
def lstOf : PV → Option (List PV)
  | .lst xs => some xs
  | _ => none
def tupOf : PV → Option (List PV)
  | .tup xs => some xs
  | _ => none
def wLst (m : EM) : AM := fun ρ st => (m ρ st).bind fun p st1 => R.ofOpt (lstOf p) st1
def wTup (m : EM) : AM := fun ρ st => (m ρ st).bind fun p st1 => R.ofOpt (tupOf p) st1
def early_I {c : Cn} : Early (fun _ G' _ (J : It) xs => Walks c J xs G') := fun _ _ _ _ _ _ _ h => h
theorem ci_lst (h : CE cm X W m it) : CI cm X W (wLst m) tg it := PI.weak (pi_list h) fun σ H R ⟨B, ρ, st, G, Rl, h⟩ =>
  ⟨B, ρ, st, G, Rl, Out.bindR early_I Rl h fun p st1 H1 G1 x s1 R1 rx h1 => by
    cases rx with
    | @lst a vs ps ha ra => exact ⟨a, rfl, ⟨vs, SqL.of (R1.lst ha)⟩, h1 H1 G1 _ (.refl G1 H1) R1.toSRel (walks_list ha ra)⟩
    | _ => exact h1.elim⟩
theorem ci_tup (h : CE cm X W m it) : CI cm X W (wTup m) tg it := PI.weak (pi_tup h) fun σ H R ⟨B, ρ, st, G, Rl, h⟩ =>
  ⟨B, ρ, st, G, Rl, Out.bindR early_I Rl h fun p st1 H1 G1 x s1 R1 rx h1 => by
    cases rx with
    | @tup a vs ps ha ra => exact ⟨a, rfl, ⟨vs, R1.sqT ha⟩, h1 H1 G1 _ (.refl G1 H1) R1.toSRel (walks_tup ha ra)⟩
    | _ => exact h1.elim⟩
theorem upInts_get (lo : Int) : ∀ (n i : Nat) (p : PV), (upInts lo n)[i]? = some p → i < n ∧ p = .int (lo + i)
  | 0, i, p, h => by cases h
  | n + 1, 0, p, h => by
    have h : some (PV.int lo) = some p := h
    cases h
    exact ⟨Nat.zero_lt_succ _, by simp⟩
  | n + 1, i + 1, p, h => by
    obtain ⟨h1, h2⟩ := upInts_get (lo + 1) n i p h
    exact ⟨Nat.succ_lt_succ h1, by rw [h2]; congr 1; omega⟩
theorem upInts_len (lo : Int) : ∀ n : Nat, (upInts lo n).length = n
  | 0 => rfl
  | n + 1 => by rw [upInts, List.length_cons, upInts_len]
theorem walks_rng {c : Cn} {G : Gh} {lo : Int} {n : Nat} : Walks c (Itr lo n) (upInts lo n) G := fun i H G2 st x2 S2 => by
  refine ⟨fun p hp => ?_, fun hi => by rw [upInts_len] at hi; exact Nat.le_of_eq hi⟩
  obtain ⟨h1, rfl⟩ := upInts_get lo n i p hp
  exact ⟨h1, fun x H' ⟨e1, e2⟩ => by subst e1 e2; exact ⟨G2, .refl _ _, S2, .int⟩⟩
theorem ci_rng1 {p : Pos} (hm : X.mg "range" = none) (h : CE cm X W m it) (hg : Gl X "range" := by rfl) (hs : starEach [it] X.env = [(false, eval it X.env)] := by rfl) (hs0 : starEach [it] X.env = (false, eval it X.env) :: starEach [] X.env := by rfl) : CI cm X W (wRng1 m) tg (.Call (.Name "range" p) [it] [] pos) :=
  PI.weak (pi_range1 hg hm (pa_cons h pa_nil hs0) hs) fun σ H R ⟨B, ρ, st, G, Rl, h⟩ =>
  ⟨B, ρ, st, G, Rl, Out.bindR early_I Rl h fun p st1 H1 G1 x s1 R1 rx h1 => by
    cases rx with
    | @int j =>
      have h1 : Out _ _ _ _ _ _ (BR.R.ofOpt (if big62 j then some (upInts 0 j.toNat) else none) st1) := h1
      by_cases hb : big62 j = true
      · rw [if_pos hb] at h1
        have hb' := of_decide_eq_true hb
        exact ⟨j, rfl, hb'.1, hb'.2, h1 H1 G1 _ (.refl G1 H1) R1.toSRel walks_rng⟩
      · rw [if_neg hb] at h1
        exact h1.elim
    | _ => exact h1.elim⟩
theorem ci_rng2 {p : Pos} {it2 : Expr} {m2 : EM} (hm : X.mg "range" = none) (h : CE cm X W m it) (h2 : CE cm X W m2 it2) (hg : Gl X "range" := by rfl) (hs : starEach [it, it2] X.env = [(false, eval it X.env), (false, eval it2 X.env)] := by rfl) (hs2 : starEach [it2] X.env = [(false, eval it2 X.env)] := by rfl)
    (hs0 : starEach [it, it2] X.env = (false, eval it X.env) :: starEach [it2] X.env := by rfl) (hs1 : starEach [it2] X.env = (false, eval it2 X.env) :: starEach [] X.env := by rfl) : CI cm X W (wRng2 m m2) tg (.Call (.Name "range" p) [it, it2] [] pos) :=
  PI.weak (pi_range2 hg hm (pa_cons h (pa_cons h2 pa_nil hs1) hs0) hs hs2) fun σ H R ⟨B, ρ, st, G, Rl, h⟩ =>
  ⟨B, ρ, st, G, Rl, Out.bindR early_I Rl h fun p st1 H1 G1 x s1 R1 rx h1 =>
    ⟨B, ρ, st1, G1, R1, Out.bindR early_I R1 h1 fun q st2 H2 G2 y s2 R2 ry h2 => by
    cases rx with
    | @int i =>
      cases ry with
      | @int j =>
        have h2 : Out _ _ _ _ _ _ (BR.R.ofOpt (if big62 i && big62 j then some (upInts i (j - i).toNat) else none) st2) := h2
        by_cases hb : (big62 i && big62 j) = true
        · rw [if_pos hb] at h2
          obtain ⟨b1, b2⟩ := Bool.and_eq_true_iff.mp hb
          have b1' := of_decide_eq_true b1
          have b2' := of_decide_eq_true b2
          exact ⟨i, j, rfl, ⟨b1'.1, b1'.2, b2'.1, b2'.2⟩, h2 H2 G2 _ (.refl G2 H2) R2.toSRel walks_rng⟩
        · rw [if_neg hb] at h2
          exact h2.elim
      | _ => exact h2.elim
    | _ => cases ry <;> exact h2.elim⟩⟩
theorem cs_for {own : List Nat} {w : AM} {g : GM} {n : SM} {body : List Stmt} (hp : PassesOwn (model X.prog X.w) X.A X.env X.xe) (hc : X.calm = true) (hi : CI cm X W w tg it) (hg : CG cm X own g tg) (hb : CSs cm X W n body) (hs : ∀ x, foldedSetIterable it X.env x = pure x := by intro _; rfl) :
    CS cm X W (sFor w g n) (.For tg it body [] pos) := PS.weak (ps_for hp hc hi hg hb hs) fun D σ H ⟨B, ρ, st, G, R, h⟩ => by
  refine ⟨B, ρ, st, G, R, OutS.bind R h fun xs st1 H1 G1 J s1 R1 wk h1 => ?_⟩
  refine ⟨fun i k σ' H' => k = xs.length - i ∧ i ≤ xs.length ∧ ∃ ρ' st' G', GExt G1 G' ∧ Rel (cnOf X cm) B σ' ρ' H' st' G' ∧ OutS (cnOf X cm) W B D G' (forGo g n (xs.drop i) ρ' st'), ⟨_, rfl, Nat.zero_le _, ρ, st1, G1, .refl G1, R1, h1⟩, ?_⟩
  rintro i k σ2 H2 ⟨rfl, hi, ρ2, st2, G2, x2, R2, h2⟩
  obtain ⟨wgo, wstop⟩ := wk i H2 G2 st2 x2 R2.toSRel
  by_cases hlt : i < xs.length
  · refine .inr ?_
    have hx : xs[i]? = some xs[i] := List.getElem?_eq_getElem hlt
    obtain ⟨go, y⟩ := wgo _ hx
    refine ⟨go, fun σ3 H3 => ∃ ρ3 st3 G3, GExt G1 G3 ∧ Rel (cnOf X cm) B σ3 ρ3 H3 st3 G3 ∧ OutS (cnOf X cm) W B D G3 (forGo g n (xs.drop (i + 1)) ρ3 st3), fun σ3 H3 ⟨ρ3, st3, G3, x3, R3, h3⟩ => ⟨_, by omega, rfl, hlt, ρ3, st3, G3, x3, R3, h3⟩, fun v H3 hy => ?_⟩
    obtain ⟨G3, s3, S3, r3⟩ := y v H3 hy
    have R3 := R2.step s3 S3
    rw [List.drop_eq_getElem_cons hlt] at h2
    unfold forGo at h2
    cases eg : g xs[i] ρ2 st2 with
    | none => rw [eg] at h2; exact h2.elim
    | some z =>
      obtain ⟨ρ4, st4⟩ := z
      rw [eg] at h2
      refine ⟨B, ρ2, st2, G3, xs[i], R3, r3, ρ4, st4, eg, fun σ4 H4 G4 x4 _ _ R4 => ⟨B, ρ4, st4, G4, R4, ?_⟩⟩
      have x24 := s3.toGExt.trans x4
      simp only at h2
      cases eb : n ρ4 st4 with
      | next ρ5 st5 => rw [eb] at h2; exact fun σ5 H5 G5 x5 R5 => ⟨ρ5, st5, G5, (x2.trans x24).trans x5, R5, OutS.later (x24.trans x5) h2⟩
      | cnt ρ5 st5 => rw [eb] at h2; exact fun σ5 H5 G5 x5 R5 => ⟨ρ5, st5, G5, (x2.trans x24).trans x5, R5, OutS.later (x24.trans x5) h2⟩
      | brk ρ5 st5 => rw [eb] at h2; exact fun σ5 H5 G5 x5 R5 => h2 σ5 H5 G5 (x24.trans x5) R5
      | ret v st5 => rw [eb] at h2; exact OutS.later (r := .ret v st5) x24 h2
      | ex a b d e f => rw [eb] at h2; exact OutS.later (r := .ex a b d e f) x24 h2
      | bad => rw [eb] at h2; exact h2
  · refine .inl ?_
    have e : i = xs.length := by omega
    subst e
    rw [List.drop_length] at h2
    exact ⟨wstop rfl, h2 σ2 H2 G2 (.refl G2) R2⟩
theorem cs_while {t : BM} {n : SM} {e : Expr} {body : List Stmt} (hp : PassesOwn (model X.prog X.w) X.A X.env X.xe) (hc : CT cm X W t e) (hb : CSs cm X W n body) : CS cm X W (sWhile t n) (.While e body [] pos) := PS.weak (ps_while hp hc hb) fun D σ H ⟨B, ρ, st, G, R, h⟩ => by
  refine ⟨fun k σ' H' => ∃ ρ' st' G', GExt G G' ∧ Rel (cnOf X cm) B σ' ρ' H' st' G' ∧ OutS (cnOf X cm) W B D G' (whileGo t n k ρ' st'), ⟨fuel, ρ, st, G, .refl G, R, h⟩, ?_⟩
  rintro k σ2 H2 ⟨ρ2, st2, G2, x2, R2, h2⟩
  cases k with
  | zero => exact h2.elim
  | succ k =>
    refine ⟨B, ρ2, st2, G2, R2, OutS.bind R2 h2 fun b st3 H3 G3 x s3 R3 rx h3 => ?_⟩
    subst rx
    cases x with
    | false =>
      rw [if_neg Bool.false_ne_true]
      exact h3 σ2 H3 G3 (.refl G3) R3
    | true =>
      rw [if_pos rfl]
      simp only [if_true] at h3
      refine ⟨fun σ4 H4 => ∃ ρ' st' G', GExt G G' ∧ Rel (cnOf X cm) B σ4 ρ' H4 st' G' ∧ OutS (cnOf X cm) W B D G' (whileGo t n k ρ' st'), fun σ4 H4 q => ⟨k, Nat.lt_succ_self k, q⟩, B, ρ2, st3, G3, R3, ?_⟩
      have x3 := x2.trans s3.toGExt
      cases eb : n ρ2 st3 with
      | next ρ5 st5 => rw [eb] at h3; exact fun σ5 H5 G5 x5 R5 => ⟨ρ5, st5, G5, x3.trans x5, R5, OutS.later x5 h3⟩
      | cnt ρ5 st5 => rw [eb] at h3; exact fun σ5 H5 G5 x5 R5 => ⟨ρ5, st5, G5, x3.trans x5, R5, OutS.later x5 h3⟩
      | brk ρ5 st5 => rw [eb] at h3; exact h3
      | ret v st5 => rw [eb] at h3; exact h3
      | ex a b d e f => rw [eb] at h3; exact h3
      | bad => rw [eb] at h3; exact h3
end
end BR
set_option Elab.async false
set_option linter.all false
set_option maxRecDepth 100000
/-! BrF: list comprehensions; lists of a name's own. -/
namespace BR
open PySem PySem.Spec PyProof.Rows L2
section
variable {c : Cn} {B : Bs} {σ : L2.St} {ρ : Env} {H H1 : Hp} {st st1 : Store} {G G1 : Gh} {W : WX}
/-- an object that is not told is changed -/
theorem SRel.updOut {D : Addr} {o' : HO} (S : SRel c H st G) (n1 : G.fz D = none) (n2 : D ∉ G.io) : SRel c (upd H D o') st G := by
  refine ⟨fun a u h => by rw [upd_ne (ne_of_none h n1)]; exact S.fzH a u h, S.nd, S.iofz, S.len, fun i a u h1 h2 => ?_⟩
  have hap : a ≠ D := fun e => n2 (e ▸ List.mem_of_getElem? h1)
  have q := S.obj i a u h1 h2
  cases u with
  | lst ps =>
    obtain ⟨vs, z, r⟩ := q
    exact ⟨vs, by rw [upd_ne hap]; exact z, r⟩
  | ins cl ns ps =>
    obtain ⟨C, dx, fvs, z, hc, hn, r⟩ := q
    exact ⟨C, dx, fvs, by rw [upd_ne hap]; exact z, hc, hn, r⟩
theorem Stp.updOut {D : Addr} {o' : HO} (s : Stp G1 H1 G H) (n : H1 D = none) : Stp G1 H1 G (upd H D o') :=
  ⟨s.toGExt, fun a o h k => by rw [upd_ne (ne_of_none h n)]; exact s.keep a o h k, fun a o h => by rw [upd_ne (ne_of_none h n)]; exact s.live a o h, s.nfz, s.nio⟩
theorem wipe_get : ∀ (vs : List Nat) (σ : L2.St) (j : Nat), (wipe σ vs)[j]? = if j ∈ vs ∧ j < σ.length then some none else σ[j]?
  | [], σ, j => by simp [wipe]
  | v :: vs, σ, j => by
    unfold wipe
    by_cases e : v = j
    · subst e
      by_cases hl : v < σ.length
      · rw [List.getElem?_set_self (by rw [wipe_length]; exact hl), if_pos ⟨List.mem_cons_self, hl⟩]
      · rw [List.getElem?_eq_none (by rw [List.length_set, wipe_length]; omega), if_neg (fun z => hl z.2), List.getElem?_eq_none (by omega)]
    · rw [List.getElem?_set_ne e, wipe_get vs σ j]
      have : (j ∈ v :: vs) ↔ j ∈ vs := by simp [Ne.symm (a := v) (b := j) e]
      simp only [this]
theorem wipeE_len (ρ : Env) : ∀ vs : List Nat, (wipeE ρ vs).length = ρ.length
  | [] => rfl
  | v :: vs => by unfold wipeE; rw [List.length_set, wipeE_len]
theorem wipeE_get : ∀ (vs : List Nat) (ρ : Env) (j : Nat), (wipeE ρ vs)[j]? = if j ∈ vs ∧ j < ρ.length then some .un else ρ[j]?
  | [], ρ, j => by simp [wipeE]
  | v :: vs, ρ, j => by
    unfold wipeE
    by_cases e : v = j
    · subst e
      by_cases hl : v < ρ.length
      · rw [List.getElem?_set_self (by rw [wipeE_len]; exact hl), if_pos ⟨List.mem_cons_self, hl⟩]
      · rw [List.getElem?_eq_none (by rw [List.length_set, wipeE_len]; omega), if_neg (fun z => hl z.2), List.getElem?_eq_none (by omega)]
    · rw [List.getElem?_set_ne e, wipeE_get vs ρ j]
      have : (j ∈ v :: vs) ↔ j ∈ vs := by simp [Ne.symm (a := v) (b := j) e]
      simp only [this]
theorem Rel.wipe (R : Rel c B σ ρ H st G) (vs : List Nat) : Rel c B (wipe σ vs) (wipeE ρ vs) H st G := by
  refine ⟨R.toSRel, R.base, by rw [wipeE_len, wipe_length, R.len2], fun i sv x h1 h2 => ?_, fun i j sv sw a h1 h2 h3 h4 h5 h6 => ?_⟩
  · rw [wipeE_get] at h1
    by_cases e : i ∈ vs ∧ i < ρ.length
    · rw [if_pos e] at h1
      cases h1
      trivial
    · rw [if_neg e] at h1
      rw [wipe_get, if_neg (by rw [← R.len2]; exact e)] at h2
      exact R.slot i sv x h1 h2
  · rw [wipeE_get] at h1 h2
    by_cases e : i ∈ vs ∧ i < ρ.length
    · rw [if_pos e] at h1
      cases h1
      cases h3
    · by_cases e2 : j ∈ vs ∧ j < ρ.length
      · rw [if_pos e2] at h2
        cases h2
        cases h4
      · rw [if_neg e] at h1
        rw [if_neg e2] at h2
        rw [wipe_get, if_neg (by rw [← R.len2]; exact e)] at h5
        rw [wipe_get, if_neg (by rw [← R.len2]; exact e2)] at h6
        exact R.dist i j sv sw a h1 h2 h3 h4 h5 h6
theorem wipe_eq {σ σ1 : L2.St} {own vs : List Nat} (hs : ∀ j ∈ own, j ∈ vs) (hl : σ1.length = (L2.wipe σ vs).length) (hk : ∀ j, j ∉ own → σ1[j]? = (L2.wipe σ vs)[j]?) : L2.wipe σ1 vs = L2.wipe σ vs := by
  refine List.ext_getElem? fun j => ?_
  rw [wipe_length] at hl
  rw [wipe_get, wipe_get, hl]
  by_cases e : j ∈ vs ∧ j < σ.length
  · rw [if_pos e, if_pos e]
  · rw [if_neg e, if_neg e]
    by_cases ej : j ∈ vs
    · have : ¬ j < σ.length := fun z => e ⟨ej, z⟩
      rw [List.getElem?_eq_none (by omega), List.getElem?_eq_none (by omega)]
    · rw [hk j fun z => ej (hs j z), wipe_get, if_neg e]
end
abbrev W0 : WX := fun _ _ _ _ => False
section
variable {cm : Nat → Option Addr} {X : Cx} {W : WX} {pos : Pos}
/-- a clause's tests -/
def CTs (cm : Nat → Option Addr) (X : Cx) (t : BM) (ifs : List Expr) : Prop := PTs X ifs (tT (cnOf X cm) W0 t)
theorem PTs.weak {X : Cx} {e : List Expr} {t t' : TT} (h : PTs X e t) (w : ∀ σ H Q, t' σ H Q → t σ H Q) : PTs X e t' := ⟨fun pins s σ H Q I q => h.run pins s σ H Q I (w σ H Q q)⟩
theorem cts_nil : CTs cm X tYes [] := PTs.weak pts_nil fun σ H Q ⟨B, ρ, st, G, R, h⟩ => h H G true (.refl G H) R.toSRel rfl
theorem cts_one {t : BM} {e : Expr} (h : CT cm X W0 t e) : CTs cm X t [e] := pts_one h
theorem noex_ok {α : Type} {r : R α} {f : α → Store → R PV} : True := trivial
theorem w_lc {own : List (Str × Nat)} {w : AM} {g : GM} {ol : List Nat} {t : BM} {e : EM} (ho : ∀ j ∈ ol, j ∈ own.map (·.2)) (gp : ∀ p ρ st z, g p ρ st = some z → z.2 = st) {σ : L2.St} {H : Hp} {Q : VK} (h0 : tF (cnOf X cm) W (fLc w (own.map (·.2)) g t e) σ H Q) :
    tLc (tI (cnOf X cm) W w) (tGp (cnOf X cm) ol g) (tT (cnOf X cm) W0 t) (tE (cnOf X cm) W0 e) (own.map (·.2)) σ H Q := by
  obtain ⟨B, ρ, st, G, R, h⟩ := h0
  refine ⟨B, ρ, st, G, R, Out.bindR early_F R h fun xs st1 H1 G1 J s1 R1 wk h1 => fun D hD => ?_⟩
  refine ⟨fun i k H' => k = xs.length - i ∧ i ≤ xs.length ∧ ∃ accP acc st' G', Stp G1 H1 G' H' ∧ SRel (cnOf X cm) H' st' G' ∧ H' D = some (.lst acc) ∧ RepVs (cnOf X cm) G' acc accP ∧ G'.fz D = none ∧ D ∉ G'.io ∧
      Out (cnOf X cm) (rpF (cnOf X cm)) G1 H1 Q (fun cls d H' => W cls d σ H') ((lcGo g t e (wipeE ρ (own.map (·.2))) (xs.drop i) accP st').bind fun ys st2 => .ok (.own ys) st2),
    ⟨_, rfl, Nat.zero_le _, [], [], st1, G1, (Stp.refl G1 H1).updOut hD, R1.toSRel.updOut (R1.toSRel.notFz hD) (R1.toSRel.notIo hD), upd_same, .nil, R1.toSRel.notFz hD, R1.toSRel.notIo hD, h1⟩, ?_⟩
  rintro i k H2 ⟨rfl, hi, accP, acc, st2, G2, s2, S2, hD2, ra, n1, n2, h2⟩
  obtain ⟨wgo, wstop⟩ := wk i H2 G2 st2 s2.toGExt S2
  by_cases hlt : i < xs.length
  · refine .inr ?_
    have hx : xs[i]? = some xs[i] := List.getElem?_eq_getElem hlt
    obtain ⟨go, y⟩ := wgo _ hx
    rw [List.drop_eq_getElem_cons hlt] at h2
    refine ⟨go, fun H' => ∃ accP acc st' G', Stp G1 H1 G' H' ∧ SRel (cnOf X cm) H' st' G' ∧ H' D = some (.lst acc) ∧ RepVs (cnOf X cm) G' acc accP ∧ G'.fz D = none ∧ D ∉ G'.io ∧
      Out (cnOf X cm) (rpF (cnOf X cm)) G1 H1 Q (fun cls d H' => W cls d σ H') ((lcGo g t e (wipeE ρ (own.map (·.2))) (xs.drop (i + 1)) accP st').bind fun ys st2 => .ok (.own ys) st2), fun H' q => ⟨_, by omega, rfl, hlt, q⟩, fun v H3 hy => ?_⟩
    obtain ⟨G3, s3, S3, r3⟩ := y v H3 hy
    have s13 := s2.trans s3
    have R3 := (R1.step s13 S3).wipe (own.map (·.2))
    unfold lcGo at h2
    cases eg : g xs[i] (wipeE ρ (own.map (·.2))) st2 with
    | none => rw [eg] at h2; exact h2.elim
    | some z =>
      obtain ⟨ρ4, st4⟩ := z
      have est : st4 = st2 := gp xs[i] _ st2 _ eg
      subst est
      rw [eg] at h2
      simp only at h2
      refine ⟨B, _, _, G3, xs[i], R3, r3, ρ4, eg, fun σ4 l4 k4 R4 => ⟨wipe_eq ho l4 k4, ?_⟩⟩
      refine ⟨B, ρ4, st4, G3, R4, ?_⟩
      cases et : t ρ4 st4 with
      | bad => rw [et] at h2; exact h2
      | ex _ _ _ _ => rw [et] at h2; exact h2.elim
      | ok kk st5 =>
        rw [et] at h2
        intro H5 G5 b s5 S5 eb
        subst eb
        have s15 := s13.trans s5
        have hD5 : H5 D = some (.lst acc) := s5.keep _ _ (s3.keep _ _ hD2 n2) (s3.nio _ _ hD2 n2)
        have hD3 := s3.keep _ _ hD2 n2
        have n1' : G5.fz D = none := s5.nfz _ _ hD3 (s3.nfz _ _ hD2 n1)
        have n2' : D ∉ G5.io := s5.nio _ _ hD3 (s3.nio _ _ hD2 n2)
        have ra5 := (ra.up s3.toGExt).up s5.toGExt
        cases b with
        | false =>
          rw [if_neg Bool.false_ne_true]
          exact ⟨accP, acc, st5, G5, s15, S5, hD5, ra5, n1', n2', h2⟩
        | true =>
          rw [if_pos rfl]
          refine ⟨B, ρ4, st5, G5, R4.step s5 S5, ?_⟩
          have h2 : Out (cnOf X cm) (rpF (cnOf X cm)) G1 H1 Q (fun cls d H' => W cls d σ H') (((e ρ4 st5).noex.bind fun p st3 => (if accP.length < lim then lcGo g t e (wipeE ρ (own.map (·.2))) (xs.drop (i + 1)) (accP ++ [p]) st3 else .bad)).bind fun ys st2 => .ok (.own ys) st2) := h2
          cases ee : e ρ4 st5 with
          | bad => rw [ee] at h2; exact h2
          | ex _ _ _ _ => rw [ee] at h2; exact h2.elim
          | ok p st6 =>
            rw [ee] at h2
            intro H6 G6 v6 s6 S6 r6
            have hD6 := s6.keep _ _ hD5 n2'
            have n16 := s6.nfz _ _ hD5 n1'
            have n26 := s6.nio _ _ hD5 n2'
            have h2 : Out (cnOf X cm) (rpF (cnOf X cm)) G1 H1 Q (fun cls d H' => W cls d σ H') ((if accP.length < lim then lcGo g t e (wipeE ρ (own.map (·.2))) (xs.drop (i + 1)) (accP ++ [p]) st6 else .bad).bind fun ys st2 => .ok (.own ys) st2) := h2
            by_cases hl : accP.length < lim
            · rw [if_pos hl] at h2
              refine ⟨acc, hD6, by rw [ra5.len]; exact Nat.lt_of_lt_of_le hl (by decide), accP ++ [p], acc ++ [v6], st6, G6, (s15.trans s6).updOut hD, S6.updOut n16 n26, upd_same, (ra5.up s6.toGExt).app (.cons r6 .nil), n16, n26, h2⟩
            · rw [if_neg hl] at h2
              exact h2.elim
  · refine .inl ?_
    have e : i = xs.length := by omega
    subst e
    rw [List.drop_length] at h2
    exact ⟨wstop rfl, h2 H2 G2 (.ref D) s2 S2 ⟨D, acc, rfl, hD2, ra, n1, n2, hD⟩⟩
theorem cf_lc {elt tg iter : Expr} {ifs : List Expr} {scope : Scope} {own : List (Str × Nat)} {w : AM} {g : GM} {ol : List Nat} {t : BM} {e : EM} (hc : X.calm = true) (hN : X.N.Nodup) (hi : CI cm X W w tg iter) (ok : BlkOk X.N X.env.scope scope own) (ho : ∀ j ∈ ol, j ∈ own.map (·.2))
    (hg : ∀ (s : Shared) (H : Hp) (C : Addr) (cl : List (Str × Addr)) (fp : List Addr), CGp cm (X.blk s H scope (compEnvC scope cl C X.env) fp) ol g tg)
    (ht : ∀ (s : Shared) (H : Hp) (C : Addr) (cl : List (Str × Addr)) (fp : List Addr), CTs cm (X.blk s H scope (compEnvC scope cl C X.env) fp) t ifs)
    (he : ∀ (s : Shared) (H : Hp) (C : Addr) (cl : List (Str × Addr)) (fp : List Addr), CE cm (X.blk s H scope (compEnvC scope cl C X.env) fp) W0 e elt) (hs : ∀ x, foldedSetIterable iter X.env x = pure x := by intro _; rfl) :
    CF cm X W (fLc w (own.map (·.2)) g t e) (.ListComp elt [⟨tg, iter, ifs, 0⟩] scope pos) := PE.weak (pe_lc (g := tGp (cnOf X cm) ol g) (tt := tT (cnOf X cm) W0 t) (te := tE (cnOf X cm) W0 e) hc hN hi ok (fun s H C cl fp => (hg s H C cl fp).run) ht he hs) fun σ H Q h => w_lc ho (hg X.s_0 H X.env.locals [] []).pure h
/-- name = [..] on one line, the name a local -/
theorem cs_setLc (i : Nat) {y : Str} {py spos : Pos} {f : FM} {elt tg iter : Expr} {ifs : List Expr} {scope : Scope} {own : List (Str × Nat)} {w : AM} {g : GM} {ol : List Nat} {t : BM} {e : EM} (hc : X.calm = true) (hN : X.N.Nodup) (hi : CI cm X W w tg iter) (ok : BlkOk X.N X.env.scope scope own) (ho : ∀ j ∈ ol, j ∈ own.map (·.2))
    (hg : ∀ (s : Shared) (H : Hp) (C : Addr) (cl : List (Str × Addr)) (fp : List Addr), CGp cm (X.blk s H scope (compEnvC scope cl C X.env) fp) ol g tg)
    (ht : ∀ (s : Shared) (H : Hp) (C : Addr) (cl : List (Str × Addr)) (fp : List Addr), CTs cm (X.blk s H scope (compEnvC scope cl C X.env) fp) t ifs)
    (he : ∀ (s : Shared) (H : Hp) (C : Addr) (cl : List (Str × Addr)) (fp : List Addr), CE cm (X.blk s H scope (compEnvC scope cl C X.env) fp) W0 e elt) (hs : ∀ x, foldedSetIterable iter X.env x = pure x := by intro _; rfl)
    (hw : ∀ σ H Q, tF (cnOf X cm) W f σ H Q → tF (cnOf X cm) W (fLc w (own.map (·.2)) g t e) σ H Q) (hy : X.N[i]? = some y := by rfl) (hyl : X.env.scope.names.lookup y = some .local := by rfl) (hsw : swapsWith (.ListComp elt [⟨tg, iter, ifs, 0⟩] scope pos) (some (.Name y py)) spos.line X.env = pure true := by rfl) :
    CS cm X W (sSet i f) (.Assign [.Name y py] (.ListComp elt [⟨tg, iter, ifs, 0⟩] scope pos) spos) :=
  PS.weak (ps_setLc (g := tGp (cnOf X cm) ol g) (tt := tT (cnOf X cm) W0 t) (te := tE (cnOf X cm) W0 e) hc hN hy hyl hsw hi ok (fun s H C cl fp => (hg s H C cl fp).run) ht he hs) fun D σ H h => w_lc ho (hg X.s_0 H X.env.locals [] []).pure (hw _ _ _ (w_set h))
/-! ### lists of a name's own -/
end
section
variable {c : Cn} {B : Bs} {σ : L2.St} {ρ : Env} {H : Hp} {st : Store} {G : Gh}
theorem Rel.ownAt {i : Nat} {ps : List PV} (R : Rel c B σ ρ H st G) (h : ρ[i]? = some (.own ps)) : ∃ a vs, σ[i]? = some (some (.ref a)) ∧ H a = some (.lst vs) ∧ RepVs c G vs ps ∧ G.fz a = none ∧ a ∉ G.io ∧ B.H a = none := by
  have hi : i < σ.length := by rw [← R.len2]; exact (List.getElem?_eq_some_iff.mp h).1
  obtain ⟨a, vs, hv, q⟩ := R.slot i _ σ[i] h (List.getElem?_eq_getElem hi)
  exact ⟨a, vs, by rw [List.getElem?_eq_getElem hi, hv], q⟩
theorem Rel.setOwn {i : Nat} {a : Addr} {ps ps' : List PV} {vs vs' : List V} (R : Rel c B σ ρ H st G) (h : ρ[i]? = some (.own ps)) (hσ : σ[i]? = some (some (.ref a))) (ha : H a = some (.lst vs)) (n1 : G.fz a = none) (n2 : a ∉ G.io) (n3 : B.H a = none) (r : RepVs c G vs' ps') :
    Rel c B σ (ρ.set i (.own ps')) (upd H a (.lst vs')) st G := by
  refine ⟨R.toSRel.updOut n1 n2, R.base.updOut n3, by simp [R.len2], fun j sw y h1 h2 => ?_, fun j l sw sx b h1 h2 h3 h4 h5 h6 => ?_⟩
  · rcases getq_set h1 with ⟨ej, _, e1⟩ | ⟨ne, g1⟩
    · subst ej
      rw [hσ] at h2
      cases h2
      rw [e1]
      exact ⟨a, vs', rfl, upd_same, r, n1, n2, n3⟩
    · have q := R.slot j sw y g1 h2
      cases sw with
      | un => trivial
      | val p => exact q
      | own qs =>
        obtain ⟨b, ws, e1, e2, q⟩ := q
        exact ⟨b, ws, e1, by rw [upd_ne (show b ≠ a from fun z => ne (R.dist j i _ _ a g1 h rfl rfl (by rw [h2, e1, z]) hσ))]; exact e2, q⟩
      | ins cl ns qs =>
        obtain ⟨b, C, dx, fvs, e1, es, e2, q⟩ := q
        exact ⟨b, C, dx, fvs, e1, es, by rw [upd_ne (show b ≠ a from fun z => ne (R.dist j i _ _ a g1 h rfl rfl (by rw [h2, e1, z]) hσ))]; exact e2, q⟩
  · have own : ∀ (j : Nat) (sw : SV), (ρ.set i (.own ps'))[j]? = some sw → sw.isOwn = true → ∃ sw', ρ[j]? = some sw' ∧ sw'.isOwn = true := fun j sw q1 q2 => by
      rcases getq_set q1 with ⟨ej, _, _⟩ | ⟨_, g1⟩
      · exact ⟨_, by rw [ej]; exact h, rfl⟩
      · exact ⟨sw, g1, q2⟩
    obtain ⟨s1, g1, k1⟩ := own j sw h1 h3
    obtain ⟨s2, g2, k2⟩ := own l sx h2 h4
    exact R.dist j l s1 s2 b g1 g2 k1 k2 h5 h6
end
section
variable {cm : Nat → Option Addr} {X : Cx} {W : WX} {pos : Pos} {x : Str} {m : EM} {e : Expr}
theorem ty_list {K : PySem.W.Frag} {H : Hp} {a : Addr} {vs : List V} (h : H a = some (.lst vs)) : tyV K "list" (.ref a) H := .inl ⟨rfl, _, SqL.of h⟩
theorem out_own {c : Cn} {B : Bs} {D : Ends} {G : Gh} {ρ : Env} {i : Nat} {f : List PV → SR} (h : OutS c W B D G (match ρ[i]? with | some (.own xs) => f xs | _ => .bad)) : ∃ xs, ρ[i]? = some (.own xs) ∧ OutS c W B D G (f xs) := by
  cases e : ρ[i]? with
  | none => rw [e] at h; exact h.elim
  | some sv =>
    rw [e] at h
    cases sv with
    | own xs => exact ⟨xs, rfl, h⟩
    | _ => exact h.elim
theorem swaps_call {f : Expr} {as : List Expr} {ks : List Keyword} {p : Pos} {t : Option Expr} {n : Nat} {env : PySem.Env} : swapsWith (.Call f as ks p) t n env = pure false := rfl
/-- x.append(e) -/
theorem cs_app (i : Nat) {p1 apos cpos : Pos} (he : CE cm X W m e) (hN : X.N[i]? = some x := by rfl) (hv : Vis X.env.scope x := by first | exact Or.inl rfl | exact Or.inr (Or.inl rfl) | exact Or.inr (Or.inr rfl)) (hd : (x == ("__debug__" : Str)) = false := by decide)
    (hcd : (x == ("__classdict__" : Str)) = false := by decide) (hs0 : starEach [e] X.env = (false, eval e X.env) :: starEach [] X.env := by rfl)
    (hbase : attributeBase (.Name x p1) "append" X.env (eval (.Name x p1) X.env) = eval (.Name x p1) X.env := by rfl)
    (hfew : ((backTo cpos (starEach [e] X.env)).all (fun x => !x.1) && (backToKw cpos (keywordEach [] X.env)).all (fun x => x.1.isSome) && decide ([e].length + ([] : List Keyword).length + (if ([] : List Keyword).isEmpty then 0 else 1) < 30)) = true := by rfl)
    (hline : (apos.endLine == cpos.line) = true := by rfl) : CS cm X W (sApp i m) (.Expr (.Call (.Attribute (.Name x p1) "append" apos) [e] [] cpos) pos) :=
  PS.weak (ps_expr (pe_bm PySem.F.plainAttrs_list PySem.F.slot_list_append PySem.F.type_list_append mt_append (pe_var hN hv hd hcd) (pa_cons he pa_nil hs0) hbase hfew hline hs0 rfl) swaps_call) fun D σ H ⟨B, ρ, st, G, R, h⟩ => by
    obtain ⟨xs, hr, h⟩ := out_own h
    obtain ⟨a, vs, hσ, ha, ra, n1, n2, n3⟩ := R.ownAt hr
    refine ⟨_, hσ, ty_list ha, B, ρ, st, G, R, OutS.bind R h fun p st1 H1 G1 y s1 R1 rx h1 => ?_⟩
    by_cases hl : xs.length < lim
    · rw [if_pos hl] at h1
      have ha1 := s1.keep _ _ ha n2
      refine ⟨a, vs, y, rfl, rfl, ha1, by rw [ra.len]; exact Nat.lt_of_lt_of_le hl (by decide), ?_⟩
      exact h1 σ _ G1 (.refl G1) (R1.setOwn hr hσ ha1 (s1.nfz _ _ ha n1) (s1.nio _ _ ha n2) n3 ((ra.up s1.toGExt).app (.cons rx .nil)))
    · rw [if_neg hl] at h1
      exact h1.elim
/-- x.extend(e), e a list -/
theorem cs_ext (i : Nat) {p1 apos cpos : Pos} (he : CE cm X W m e) (hN : X.N[i]? = some x := by rfl) (hv : Vis X.env.scope x := by first | exact Or.inl rfl | exact Or.inr (Or.inl rfl) | exact Or.inr (Or.inr rfl)) (hd : (x == ("__debug__" : Str)) = false := by decide)
    (hcd : (x == ("__classdict__" : Str)) = false := by decide) (hs0 : starEach [e] X.env = (false, eval e X.env) :: starEach [] X.env := by rfl)
    (hbase : attributeBase (.Name x p1) "extend" X.env (eval (.Name x p1) X.env) = eval (.Name x p1) X.env := by rfl)
    (hfew : ((backTo cpos (starEach [e] X.env)).all (fun x => !x.1) && (backToKw cpos (keywordEach [] X.env)).all (fun x => x.1.isSome) && decide ([e].length + ([] : List Keyword).length + (if ([] : List Keyword).isEmpty then 0 else 1) < 30)) = true := by rfl)
    (hline : (apos.endLine == cpos.line) = true := by rfl) : CS cm X W (sExt i m) (.Expr (.Call (.Attribute (.Name x p1) "extend" apos) [e] [] cpos) pos) :=
  PS.weak (ps_expr (pe_bm PySem.F.plainAttrs_list PySem.F.slot_list_extend PySem.F.type_list_extend mt_extend (pe_var hN hv hd hcd) (pa_cons he pa_nil hs0) hbase hfew hline hs0 rfl) swaps_call) fun D σ H ⟨B, ρ, st, G, R, h⟩ => by
    obtain ⟨xs, hr, h⟩ := out_own h
    obtain ⟨a, vs, hσ, ha, ra, n1, n2, n3⟩ := R.ownAt hr
    refine ⟨_, hσ, ty_list ha, B, ρ, st, G, R, OutS.bind R h fun p st1 H1 G1 y s1 R1 rx h1 => ?_⟩
    cases rx with
    | @lst b ws qs hb rb =>
      by_cases hl : xs.length + qs.length ≤ lim
      · have h1 : OutS _ _ _ _ _ (if xs.length + qs.length ≤ lim then SR.next (ρ.set i (.own (xs ++ qs))) st1 else .bad) := h1
        rw [if_pos hl] at h1
        have ha1 := s1.keep _ _ ha n2
        refine ⟨a, b, vs, ws, rfl, rfl, ha1, R1.lst hb, by rw [ra.len, rb.len]; exact lim_line hl, ?_⟩
        exact h1 σ _ G1 (.refl G1) (R1.setOwn hr hσ ha1 (s1.nfz _ _ ha n1) (s1.nio _ _ ha n2) n3 ((ra.up s1.toGExt).app rb))
      · have h1 : OutS _ _ _ _ _ (if xs.length + qs.length ≤ lim then SR.next (ρ.set i (.own (xs ++ qs))) st1 else .bad) := h1
        rw [if_neg hl] at h1
        exact h1.elim
    | _ => exact h1.elim
/-- x[k] = e -/
theorem cs_setIx (i : Nat) {k : EM} {ke : Expr} {p1 p2 : Pos} (he : CE cm X W m e) (hk : CE cm X W k ke) (hN : X.N[i]? = some x := by rfl) (hv : Vis X.env.scope x := by first | exact Or.inl rfl | exact Or.inr (Or.inl rfl) | exact Or.inr (Or.inr rfl)) (hd : (x == ("__debug__" : Str)) = false := by decide)
    (hcd : (x == ("__classdict__" : Str)) = false := by decide)
    (ha : ∀ v, assign (.Subscript (.Name x p1) ke p2) X.env v = (do
      let ov ← holding [v] (eval (.Name x p1) X.env)
      let iv ← holding [v, ov] (eval ke X.env)
      standAt p2
      holding [v, ov, iv] (setItem ov iv v)
      release [v, ov, iv] []) := by intro _; rfl)
    (hs : swapsWithSole [.Subscript (.Name x p1) ke p2] e pos.line X.env = pure false := by rfl) (hw : swappedStores [.Subscript (.Name x p1) ke p2] e X.env = pure none := by rfl) : CS cm X W (sSetIx i m k) (.Assign [.Subscript (.Name x p1) ke p2] e pos) :=
  PS.weak (ps_asg he (pg_sub (pe_var hN hv hd hcd) hk set_list ha) hs hw rfl) fun D σ H ⟨B, ρ, st, G, R, h⟩ => by
    refine ⟨B, ρ, st, G, R, OutS.bind R h fun p st1 H1 G1 y s1 R1 rx h1 => ?_⟩
    obtain ⟨xs, hr, h1⟩ := out_own h1
    obtain ⟨a, vs, hσ, ha, ra, n1, n2, n3⟩ := R1.ownAt hr
    refine ⟨_, hσ, B, ρ, st1, G1, R1, OutS.bind R1 h1 fun q st2 H2 G2 z s2 R2 rz h2 => ?_⟩
    cases rz with
    | @int k =>
      have h2 : OutS _ _ _ _ _ (match L2.ixN xs.length k with | some n => SR.next (ρ.set i (.own (xs.set n p))) st2 | none => .bad) := h2
      cases ek : L2.ixN xs.length k with
      | none => rw [ek] at h2; exact h2.elim
      | some n =>
        rw [ek] at h2
        have ha2 := s2.keep _ _ ha n2
        refine ⟨a, vs, k, n, rfl, rfl, ha2, by rw [ra.len]; exact ek, ?_⟩
        exact h2 σ _ G2 (.refl G2) (R2.setOwn hr hσ ha2 (s2.nfz _ _ ha n1) (s2.nio _ _ ha n2) n3 ((ra.up s2.toGExt).setN (rx.up s2.toGExt) n))
    | _ => exact h2.elim
/-! looks at a list of a name's own -/
theorem out_eOwn {c : Cn} {α : Type} {rep : Hp → Gh → Hp → V → α → Prop} {Q : VK} {E : XK} {G : Gh} {H : Hp} {ρ : Env} {i : Nat} {f : List PV → R α} (h : Out c rep G H Q E (match ρ[i]? with | some (.own xs) => f xs | _ => .bad)) : ∃ xs, ρ[i]? = some (.own xs) ∧ Out c rep G H Q E (f xs) := by
  cases e : ρ[i]? with
  | none => rw [e] at h; exact h.elim
  | some sv =>
    rw [e] at h
    cases sv with
    | own xs => exact ⟨xs, rfl, h⟩
    | _ => exact h.elim
theorem ce_lenOwn (i : Nat) {p1 p2 : Pos} (hm : X.mg "len" = none) (hN : X.N[i]? = some x := by rfl) (hv : Vis X.env.scope x := by first | exact Or.inl rfl | exact Or.inr (Or.inl rfl) | exact Or.inr (Or.inr rfl)) (hd : (x == ("__debug__" : Str)) = false := by decide)
    (hcd : (x == ("__classdict__" : Str)) = false := by decide) (hg : Gl X "len" := by rfl) : CE cm X W (eLenOwn i) (.Call (.Name "len" p1) [.Name x p2] [] pos) :=
  PE.weak (pe_callB call_len hg hm PySem.boot_len (pa_cons (pe_var hN hv hd hcd) pa_nil)) fun σ H Q ⟨B, ρ, st, G, R, h⟩ => by
    obtain ⟨xs, hr, h⟩ := out_eOwn h
    obtain ⟨a, vs, hσ, ha, ra, n1, n2, n3⟩ := R.ownAt hr
    exact ⟨_, hσ, _, xs.length, rfl, .inl ⟨vs, SqL.of ha, ra.len.symm⟩, h H G _ (.refl G H) R.toSRel .int⟩
theorem ce_idxOwn (i : Nat) {p1 : Pos} (he : CE cm X W m e) (hN : X.N[i]? = some x := by rfl) (hv : Vis X.env.scope x := by first | exact Or.inl rfl | exact Or.inr (Or.inl rfl) | exact Or.inr (Or.inr rfl)) (hd : (x == ("__debug__" : Str)) = false := by decide)
    (hcd : (x == ("__classdict__" : Str)) = false := by decide) (hs : PlainIx e := by exact fun _ _ => rfl) : CE cm X W (eIdxOwn i m) (.Subscript (.Name x p1) e pos) :=
  PE.weak (pe_ix ix_list (pe_var hN hv hd hcd) he hs) fun σ H Q ⟨B, ρ, st, G, R, h⟩ => by
    obtain ⟨xs, hr, h⟩ := out_eOwn h
    obtain ⟨a, vs, hσ, ha, ra, n1, n2, n3⟩ := R.ownAt hr
    refine ⟨_, hσ, B, ρ, st, G, R, Out.bindR early_E R h fun q st1 H1 G1 z s1 R1 rz h1 => ?_⟩
    obtain ⟨p, ep, h2⟩ := out_ofOpt h1
    cases rz with
    | @int k =>
      obtain ⟨v, hv, rv⟩ := (ra.up s1.toGExt).atI (show L2.atI xs k = some p from ep)
      exact ⟨a, vs, k, v, rfl, rfl, SqL.of (s1.keep _ _ ha n2), hv, h2 H1 G1 v (.refl G1 H1) R1.toSRel rv⟩
    | _ => cases ep
theorem ce_tupOwn (i : Nat) {p1 p2 : Pos} (hm : X.mg "tuple" = none) (hN : X.N[i]? = some x := by rfl) (hv : Vis X.env.scope x := by first | exact Or.inl rfl | exact Or.inr (Or.inl rfl) | exact Or.inr (Or.inr rfl)) (hd : (x == ("__debug__" : Str)) = false := by decide)
    (hcd : (x == ("__classdict__" : Str)) = false := by decide) (hg : Gl X "tuple" := by rfl) (hb : bootBuiltins "tuple" = some (.type "tuple") := by decide +kernel) : CE cm X W (eTupOwn i) (.Call (.Name "tuple" p1) [.Name x p2] [] pos) :=
  PE.weak (pe_callTy call_tupleN hg hm hb (pa_cons (pe_var hN hv hd hcd) pa_nil)) fun σ H Q ⟨B, ρ, st, G, R, h⟩ => by
    obtain ⟨xs, hr, h⟩ := out_eOwn h
    obtain ⟨a, vs, hσ, ha, ra, n1, n2, n3⟩ := R.ownAt hr
    exact ⟨_, hσ, a, vs, rfl, .inl ⟨SqL.of ha, fun l o hl hd => rd_new R.toSRel hl (new_tup R.toSRel hl hd ra) h⟩⟩
theorem cf_lstOwn (i : Nat) {p1 p2 : Pos} (hm : X.mg "list" = none) (hN : X.N[i]? = some x := by rfl) (hv : Vis X.env.scope x := by first | exact Or.inl rfl | exact Or.inr (Or.inl rfl) | exact Or.inr (Or.inr rfl)) (hd : (x == ("__debug__" : Str)) = false := by decide)
    (hcd : (x == ("__classdict__" : Str)) = false := by decide) (hg : Gl X "list" := by rfl) (hb : bootBuiltins "list" = some (.type "list") := by decide +kernel) : CF cm X W (fLstOwn i) (.Call (.Name "list" p1) [.Name x p2] [] pos) :=
  PE.weak (pe_callTy call_list_of hg hm hb (pa_cons (pe_var hN hv hd hcd) pa_nil)) fun σ H Q ⟨B, ρ, st, G, R, h⟩ => by
    obtain ⟨xs, hr, h⟩ := out_eOwn h
    obtain ⟨a, vs, hσ, ha, ra, n1, n2, n3⟩ := R.ownAt hr
    refine ⟨_, hσ, a, vs, rfl, .inl (SqL.of ha), fun l hl => ?_⟩
    obtain ⟨S2, s2⟩ := R.toSRel.fresh (o := .lst vs) hl
    exact h _ _ _ s2 S2 ⟨l, vs, rfl, upd_same, ra, R.toSRel.notFz hl, R.toSRel.notIo hl, hl⟩
theorem eqvs_nil (xs : List PV) : eqvs xs [] = xs.isEmpty := by cases xs <;> rfl
/-- x == [], x != [] -/
theorem emp_core {neg : Bool} (i : Nat) (σ : L2.St) (H : Hp) (Q : VK) (h : tE (cnOf X cm) W (eEmpOwn i neg) σ H Q) (r : R2) (hr : r = rEqD X.K ∧ neg = false ∨ r = rNeD X.K ∧ neg = true) : tOp r (tVar i) (tLst tNil) σ H Q := by
  obtain ⟨B, ρ, st, G, R, h⟩ := h
  obtain ⟨xs, hr', h⟩ := out_eOwn h
  obtain ⟨a, vs, hσ, ha, ra, n1, n2, n3⟩ := R.ownAt hr'
  obtain ⟨z, ez, h2⟩ := out_ofOpt h
  obtain ⟨hp, rfl⟩ := some_ite ez
  refine ⟨_, hσ, Nat.zero_le _, fun p hp' => ?_⟩
  obtain ⟨S2, s2⟩ := R.toSRel.fresh (o := .lst []) hp'
  have hne : a ≠ p := ne_of_none ha hp'
  have d1 : Dp X.K (upd H p (.lst [])) (.ref a) (pd (.lst xs)) := .lst (SqL.of (by rw [upd_ne hne]; exact ha)) (dps_of (c := cnOf X cm) S2 xs vs 7 ra hp)
  have d2 : Dp X.K (upd H p (.lst [])) (.ref p) (pd (.lst [])) := .lst (SqL.of upd_same) .nil
  have e1 : plain 8 (.lst xs) = true := hp
  have ev : PyData.eqv (pd (.lst xs)) (pd (.lst [])) = xs.isEmpty := by
    rw [pd_eqv (.lst xs) (.lst []) 8 8 e1 rfl]
    exact eqvs_nil xs
  rcases hr with ⟨rfl, rfl⟩ | ⟨rfl, rfl⟩
  · refine ⟨_, _, d1, d2, shaped8 e1, shaped8 rfl, ?_⟩
    rw [ev]
    exact h2 _ _ _ s2 S2 .bl
  · refine ⟨_, _, d1, d2, shaped8 e1, shaped8 rfl, ?_⟩
    rw [ev]
    exact h2 _ _ _ s2 S2 .bl
theorem ct_neEmp (i : Nat) {p1 p2 : Pos} {k : Nat} (hr : Room k X.A) (hN : X.N[i]? = some x := by rfl) (hv : Vis X.env.scope x := by first | exact Or.inl rfl | exact Or.inr (Or.inl rfl) | exact Or.inr (Or.inr rfl)) (hd : (x == ("__debug__" : Str)) = false := by decide)
    (hcd : (x == ("__classdict__" : Str)) = false := by decide) : CT cm X W (tVal (eEmpOwn i true)) (.Compare (.Name x p1) [.NotEq] [.List [] p2] pos) :=
  PT.weak (pt_cmpR (op_neD hr.units) (pe_var hN hv hd hcd) (pe_lst pa_nil) (nomark _)) fun σ H Q h => emp_core i σ H _ (tE_tVal h) _ (.inr ⟨rfl, rfl⟩)
theorem ct_eqEmp (i : Nat) {p1 p2 : Pos} {k : Nat} (hr : Room k X.A) (hN : X.N[i]? = some x := by rfl) (hv : Vis X.env.scope x := by first | exact Or.inl rfl | exact Or.inr (Or.inl rfl) | exact Or.inr (Or.inr rfl)) (hd : (x == ("__debug__" : Str)) = false := by decide)
    (hcd : (x == ("__classdict__" : Str)) = false := by decide) : CT cm X W (tVal (eEmpOwn i false)) (.Compare (.Name x p1) [.Eq] [.List [] p2] pos) :=
  PT.weak (pt_cmpR (op_eqD hr.units) (pe_var hN hv hd hcd) (pe_lst pa_nil) (nomark _)) fun σ H Q h => emp_core i σ H _ (tE_tVal h) _ (.inl ⟨rfl, rfl⟩)
end
end BR
set_option Elab.async false
set_option linter.all false
set_option maxRecDepth 100000
/-! BrG: slices, parallel assignments, instances, methods. -/
namespace BR
open PySem PySem.Spec PyProof.Rows L2
/-! ### slices -/
abbrev rpO : Hp → Gh → Hp → Option Int → Option Int → Prop := fun _ _ _ b k => b = k
theorem early_O : Early rpO := fun _ _ _ _ _ _ _ h => h
def tO (c : Cn) (W : WX) (m : OM) : TO := fun σ H Q => ∃ B ρ st G, Rel c B σ ρ H st G ∧ Out c rpO G H Q (fun cls d H' => W cls d σ H') (m ρ st)
def CO (cm : Nat → Option Addr) (X : Cx) (W : WX) (m : OM) (e : Option Expr) : Prop := PO X e (tO (cnOf X cm) W m)
theorem PO.weak {X : Cx} {e : Option Expr} {t t' : TO} (h : PO X e t) (w : ∀ σ H Q, t' σ H Q → t σ H Q) : PO X e t' := ⟨fun pins s σ H Q I q => h.run pins s σ H Q I (w σ H Q q)⟩
theorem cutV_G (xs : List V) (lo hi : Option Int) : cutV xs lo hi = cutG xs lo hi := rfl
theorem RepVs.cut {c : Cn} {G : Gh} {vs : List V} {ps : List PV} (r : RepVs c G vs ps) (lo hi : Option Int) : RepVs c G (cutG vs lo hi) (cutG ps lo hi) := by
  unfold cutG
  rw [r.len]
  exact (r.drop _).take _
theorem cutG_whole {α : Type} {xs : List α} {lo hi : Option Int} (h : HT.sIx xs.length 0 lo = 0 ∧ HT.sIx xs.length xs.length hi = xs.length) : cutG xs lo hi = xs := by
  unfold cutG
  rw [h.1, h.2]
  simp
section
variable {cm : Nat → Option Addr} {X : Cx} {W : WX} {pos : Pos} {m : EM} {e : Expr}
theorem co_none : CO cm X W oNone none := PO.weak po_none fun σ H Q ⟨B, ρ, st, G, R, h⟩ => h H G none (.refl G H) R.toSRel rfl
theorem co_some (h : CE cm X W m e) : CO cm X W (oSome m) (some e) := PO.weak (po_some h) fun σ H Q ⟨B, ρ, st, G, R, h⟩ =>
  ⟨B, ρ, st, G, R, Out.bindR early_O R h fun p st1 H1 G1 x s1 R1 rx h1 => by
    cases rx with
    | int => exact ⟨_, rfl, h1 H1 G1 _ (.refl G1 H1) R1.toSRel rfl⟩
    | _ => exact h1.elim⟩
def rSlAll (K : PySem.W.Frag) : V → Option Int → Option Int → Hp → VK → Prop := fun x lo hi H Q => rSlN K x lo hi H Q ∨ (rSlL K x lo hi H Q ∨ rSlS x lo hi H Q)
theorem sl_all : SlR X (rSlAll X.K) := sl_tupN.or (sl_list.or sl_str)
theorem ce_cut {lo hi : Option Expr} {l h : OM} {p2 : Pos} (he : CE cm X W m e) (hl : CO cm X W l lo) (hh : CO cm X W h hi) : CE cm X W (eCut m l h) (.Subscript e (.Slice lo hi none p2) pos) :=
  PE.weak (pe_slice sl_all he hl hh) fun σ H Q ⟨B, ρ, st, G, R, k⟩ =>
  ⟨B, ρ, st, G, R, Out.bindR early_E R k fun p st1 H1 G1 x s1 R1 rx k1 =>
    ⟨B, ρ, st1, G1, R1, Out.bindR early_E R1 k1 fun a st2 H2 G2 y s2 R2 ry k2 =>
      ⟨B, ρ, st2, G2, R2, Out.bindR early_E R2 k2 fun b st3 H3 G3 z s3 R3 rz k3 => by
        have ey : y = a := ry
        have ez : z = b := rz
        subst ey ez
        obtain ⟨q, eq, k4⟩ := out_ofOpt k3
        have rx3 := rx.up (s2.trans s3).toGExt
        cases rx3 with
        | @tup t vs ps ha ra =>
          have eq : some (PV.tup (cutG ps y z)) = some q := eq
          cases eq
          refine .inl ⟨t, vs, rfl, R3.sqT ha, fun hw => ?_, fun _ n o hn hd => rd_new R3.toSRel hn (new_tup R3.toSRel hn hd (ra.cut y z)) k4⟩
          rw [ra.len] at hw
          rw [cutG_whole hw] at k4
          exact rd_now R3.toSRel (.tup ha ra) k4
        | @lst t vs ps ha ra =>
          have eq : some (PV.lst (cutG ps y z)) = some q := eq
          cases eq
          exact .inr (.inl ⟨t, vs, rfl, SqL.of (R3.lst ha), fun n hn => rd_new R3.toSRel hn (new_lst R3.toSRel hn (ra.cut y z)) k4⟩)
        | @str s =>
          obtain ⟨hl, rfl⟩ := some_ite eq
          refine .inr (.inr ⟨_, rfl, by rw [str_len]; exact lim_line hl, ?_⟩)
          have e2 : cutS ⟨s.toArray⟩ y z = ⟨(cutG s y z).toArray⟩ := by
            unfold cutS cutG
            rw [str_len]
          rw [e2]
          exact rd_now R3.toSRel .str k4
        | _ => cases eq⟩⟩⟩
/-- a slice of a list of a name's own -/
theorem cf_cutOwn (i : Nat) {x : Str} {lo hi : Option Expr} {l h : OM} {p1 p2 : Pos} (hl : CO cm X W l lo) (hh : CO cm X W h hi) (hN : X.N[i]? = some x := by rfl) (hv : Vis X.env.scope x := by first | exact Or.inl rfl | exact Or.inr (Or.inl rfl) | exact Or.inr (Or.inr rfl)) (hd : (x == ("__debug__" : Str)) = false := by decide)
    (hcd : (x == ("__classdict__" : Str)) = false := by decide) : CF cm X W (fCutOwn i l h) (.Subscript (.Name x p1) (.Slice lo hi none p2) pos) :=
  PE.weak (pe_slice sl_list (pe_var hN hv hd hcd) hl hh) fun σ H Q ⟨B, ρ, st, G, R, k⟩ => by
    obtain ⟨xs, hr, k⟩ := out_eOwn k
    obtain ⟨a, vs, hσ, ha, ra, n1, n2, n3⟩ := R.ownAt hr
    refine ⟨_, hσ, B, ρ, st, G, R, Out.bindR early_F R k fun lo' st2 H2 G2 y s2 R2 ry k2 => ?_⟩
    refine ⟨B, ρ, st2, G2, R2, Out.bindR early_F R2 k2 fun hi' st3 H3 G3 z s3 R3 rz k3 => ?_⟩
    have ey : y = lo' := ry
    have ez : z = hi' := rz
    subst ey ez
    have s13 := s2.trans s3
    refine ⟨a, vs, rfl, SqL.of (s13.keep _ _ ha n2), fun n hn => ?_⟩
    obtain ⟨S4, s4⟩ := R3.toSRel.fresh (o := .lst (cutV vs y z)) hn
    exact k3 _ _ _ s4 S4 ⟨n, _, rfl, upd_same, (ra.up s13.toGExt).cut y z, R3.toSRel.notFz hn, R3.toSRel.notIo hn, hn⟩
/-! ### a, b = x, y -/
variable {m1 m2 m3 : FM} {a b d : Expr} {x y z : Str}
theorem cs_par (i j : Nat) {px py pt : Pos} {kt k2 : Nat} {pt2 : Pos} (hc : X.calm = true) (hN : X.N.Nodup) (ha : CF cm X W m1 a) (hb : CF cm X W m2 b) (hi : X.N[i]? = some x := by rfl) (hj : X.N[j]? = some y := by rfl) (hij : i ≠ j := by decide)
    (hx : X.env.scope.names.lookup x = some .local := by rfl) (hy : X.env.scope.names.lookup y = some .local := by rfl)
    (hw : swappedStores [.Tuple [.Name x px, .Name y py] kt pt] (.Tuple [a, b] k2 pt2) X.env = pure (some [x, y]) := by rfl)
    (hs : swapsWithSole [.Tuple [.Name x px, .Name y py] kt pt] (.Tuple [a, b] k2 pt2) pos.line X.env = pure false := by rfl) (hs0 : starEach [a, b] X.env = (false, eval a X.env) :: starEach [b] X.env := by rfl) (hs1 : starEach [b] X.env = (false, eval b X.env) :: starEach [] X.env := by rfl) :
    CS cm X W (sPar i j m1 m2) (.Assign [.Tuple [.Name x px, .Name y py] kt pt] (.Tuple [a, b] k2 pt2) pos) :=
  PS.weak (ps_par hc hN hi hj hij hx hy (pa_cons ha (pa_cons hb pa_nil hs1) hs0) hw hs) fun D σ H ⟨B, ρ, st, G, R, h⟩ => by
    refine ⟨B, ρ, st, G, R, ?_⟩
    unfold sPar at h
    cases h1 : m1 ρ st with
    | bad => rw [h1] at h; exact h
    | ex cl ns vs st1 => rw [h1] at h; exact fun H1 G1 cls dd s1 S er => h σ H1 G1 cls dd s1.toGExt (R.step s1 S) er
    | ok v st1 =>
      rw [h1] at h
      intro H1 G1 xv s1 S1 rx
      have R1 := R.step s1 S1
      refine ⟨B, ρ, st1, G1, R1, ?_⟩
      have h : OutS _ _ _ _ _ ((m2 ρ st1).bindS ρ fun w st2 => .next ((ρ.set i v).set j w) st2) := h
      cases h2 : m2 ρ st1 with
      | bad => rw [h2] at h; exact h
      | ex cl ns vs st2 => rw [h2] at h; exact fun H2 G2 cls dd s2 S er => h σ H2 G2 cls dd (s1.trans s2).toGExt (R1.step s2 S) er
      | ok w st2 =>
        rw [h2] at h
        intro H2 G2 yv s2 S2 ry
        have R1' := R.setF (i := i) s1 S1 rx
        exact ⟨xv, yv, rfl, h _ H2 G2 (s1.trans s2).toGExt (R1'.setF (i := j) s2 S2 ry)⟩
/-- the same by way of a tuple: any places of names -/
theorem cs_parT (i j : Nat) {px py pt : Pos} {kt k2 : Nat} {pt2 : Pos} (hc : X.calm = true) (hN : X.N.Nodup) (ha : CF cm X W m1 a) (hb : CF cm X W m2 b) (hi : X.N[i]? = some x := by rfl) (hj : X.N[j]? = some y := by rfl)
    (hx : Loc X.env.scope x := by first | exact .inl rfl | exact .inr rfl) (hy : Loc X.env.scope y := by first | exact .inl rfl | exact .inr rfl)
    (fx : X.fn x = true ∨ X.env.scope.names.lookup x = some .local := by first | exact .inl rfl | exact .inr rfl | assumption) (fy : X.fn y = true ∨ X.env.scope.names.lookup y = some .local := by first | exact .inl rfl | exact .inr rfl | assumption)
    (hw : swappedStores [.Tuple [.Name x px, .Name y py] kt pt] (.Tuple [a, b] k2 pt2) X.env = pure none := by rfl)
    (hs : swapsWithSole [.Tuple [.Name x px, .Name y py] kt pt] (.Tuple [a, b] k2 pt2) pos.line X.env = pure false := by rfl) (hs0 : starEach [a, b] X.env = (false, eval a X.env) :: starEach [b] X.env := by rfl) (hs1 : starEach [b] X.env = (false, eval b X.env) :: starEach [] X.env := by rfl) :
    CS cm X W (sPar i j m1 m2) (.Assign [.Tuple [.Name x px, .Name y py] kt pt] (.Tuple [a, b] k2 pt2) pos) :=
  PS.weak (ps_asg (pe_tup (pa_cons ha (pa_cons hb pa_nil hs1) hs0)) (pg_tup (n := 2) hc (pgs_cons (pg_name hN hi hx fx) (pgs_cons (pg_name hN hj hy fy) pgs_nil))) hs hw rfl) fun D σ H ⟨B, ρ, st, G, R, h⟩ => by
    refine ⟨B, ρ, st, G, R, ?_⟩
    unfold sPar at h
    cases h1 : m1 ρ st with
    | bad => rw [h1] at h; exact h
    | ex cl ns vs st1 => rw [h1] at h; exact fun H1 G1 cls dd s1 S er => h σ H1 G1 cls dd s1.toGExt (R.step s1 S) er
    | ok v st1 =>
      rw [h1] at h
      intro H1 G1 xv s1 S1 rx
      have R1 := R.step s1 S1
      refine ⟨B, ρ, st1, G1, R1, ?_⟩
      have h : OutS _ _ _ _ _ ((m2 ρ st1).bindS ρ fun w st2 => .next ((ρ.set i v).set j w) st2) := h
      cases h2 : m2 ρ st1 with
      | bad => rw [h2] at h; exact h
      | ex cl ns vs st2 => rw [h2] at h; exact fun H2 G2 cls dd s2 S er => h σ H2 G2 cls dd (s1.trans s2).toGExt (R1.step s2 S) er
      | ok w st2 =>
        rw [h2] at h
        intro H2 G2 yv s2 S2 ry
        have R1' := R.setF (i := i) s1 S1 rx
        have R2' := R1'.setF (i := j) s2 S2 ry
        refine ⟨(by show 2 ≤ _; decide), fun p hp => ?_⟩
        obtain ⟨S3, s3⟩ := S2.fresh (o := .tup [xv, yv]) hp
        exact ⟨p, [xv, yv], rfl, SqT.of upd_same, rfl, xv, [yv], rfl, yv, [], rfl, rfl, h _ _ G2 ((s1.trans s2).trans s3).toGExt (R2'.step s3 S3)⟩
end
end BR
set_option Elab.async false
set_option linter.all false
set_option maxRecDepth 100000
/-! BrH: instances: attributes, methods, properties, making. -/
namespace BR
open PySem PySem.Spec PyProof.Rows L2
theorem ite_some {α : Type} {c : Prop} [Decidable c] {x : Option α} {b : α} (h : (if c then x else none) = some b) : c ∧ x = some b := by
  by_cases e : c
  · rw [if_pos e] at h
    exact ⟨e, h⟩
  · rw [if_neg e] at h
    cases h
section
variable {c : Cn} {B : Bs} {σ : L2.St} {ρ : Env} {H H1 : Hp} {st st1 : Store} {G G1 : Gh}
/-! ### lookups -/
theorem look2_some {f : Str} : ∀ {fvs : List (Str × V)} {ns : List Str} {vs : List PV} {p : PV}, fvs.map (·.1) = ns → RepVs c G (fvs.map (·.2)) vs → look2 ns vs f = some p → ∃ v, fvs.lookup f = some v ∧ RepV c G v p
  | [], _, _, _, e, r, h => by
    subst e
    cases r
    cases h
  | (n, v) :: fvs, _, _, p, e, r, h => by
    subst e
    cases r with
    | @cons _ q _ qs r1 r2 =>
      have h : (if n = f then some q else look2 (fvs.map (·.1)) qs f) = some p := h
      by_cases en : n = f
      · rw [if_pos en] at h
        cases h
        subst en
        exact ⟨v, by simp [List.lookup], r1⟩
      · rw [if_neg en] at h
        obtain ⟨w, e1, e2⟩ := look2_some rfl r2 h
        exact ⟨w, by rw [List.lookup, show (f == n) = false by simpa using fun z => en z.symm]; exact e1, e2⟩
theorem look2_none {f : Str} : ∀ {fvs : List (Str × V)} {ns : List Str} {vs : List PV}, fvs.map (·.1) = ns → RepVs c G (fvs.map (·.2)) vs → look2 ns vs f = none → fvs.lookup f = none
  | [], _, _, e, r, h => rfl
  | (n, v) :: fvs, _, _, e, r, h => by
    subst e
    cases r with
    | @cons _ q _ qs r1 r2 =>
      have h : (if n = f then some q else look2 (fvs.map (·.1)) qs f) = none := h
      by_cases en : n = f
      · rw [if_pos en] at h
        cases h
      · rw [if_neg en] at h
        rw [List.lookup, show (f == n) = false by simpa using fun z => en z.symm]
        exact look2_none rfl r2 h
theorem put2_rep {f : Str} {y : V} {p : PV} (ry : RepV c G y p) : ∀ {fvs : List (Str × V)} {ns : List Str} {vs : List PV}, fvs.map (·.1) = ns → RepVs c G (fvs.map (·.2)) vs → (putF f y fvs).map (·.1) = (put2 ns vs f p).1 ∧ RepVs c G ((putF f y fvs).map (·.2)) (put2 ns vs f p).2
  | [], _, _, e, r => by
    subst e
    cases r
    exact ⟨rfl, .cons ry .nil⟩
  | (n, v) :: fvs, _, _, e, r => by
    subst e
    cases r with
    | @cons _ q _ qs r1 r2 =>
      by_cases en : n = f
      · refine ⟨?_, ?_⟩
        · simp [putF, put2, en]
        · simp only [putF, put2, List.map, en, if_true]
          exact .cons ry r2
      · obtain ⟨a, b⟩ := put2_rep (f := f) ry (fvs := fvs) rfl r2
        refine ⟨?_, ?_⟩
        · simp [putF, put2, en, a]
        · simp only [putF, put2, List.map, en, if_false]
          exact .cons r1 b
theorem insOf_at {cl : Nat} {p : PV} {v : V} {ns : List Str} {vs : List PV} (S : SRel c H st G) (r : RepV c G v p) (h : insOf cl p st = some (ns, vs)) : ∃ a C dx fvs, v = .ref a ∧ H a = some (.ins C dx fvs) ∧ c.cm cl = some C ∧ fvs.map (·.1) = ns ∧ RepVs c G (fvs.map (·.2)) vs := by
  cases p with
  | ins k ms ws =>
    have h : (if k = cl then some (ms, ws) else none) = some (ns, vs) := h
    obtain ⟨e, h'⟩ := ite_some h
    clear h
    subst e
    cases h'
    cases r with
    | ins h1 h2 h3 h4 => exact ⟨_, _, _, _, rfl, S.fzH _ _ h1, h2, h3, h4⟩
  | ref i =>
    have h : (match st[i]? with | some (SO.ins k ms ws) => if k = cl then some (ms, ws) else none | _ => none) = some (ns, vs) := h
    cases r with
    | ref h1 =>
      cases e : st[i]? with
      | none => rw [e] at h; cases h
      | some o =>
        rw [e] at h
        cases o with
        | lst xs => cases h
        | ins k ms ws =>
          have h : (if k = cl then some (ms, ws) else none) = some (ns, vs) := h
          obtain ⟨e2, h'⟩ := ite_some h
          clear h
          subst e2
          cases h'
          obtain ⟨C, dx, fvs, q1, q2, q3, q4⟩ := S.obj i _ _ h1 e
          exact ⟨_, C, dx, fvs, rfl, q1, q2, q3, q4⟩
  | _ => cases h
/-! ### what was new is told -/
theorem frzOld {a : Addr} {o : HO} (s1 : Stp G H G1 H1) (S1 : SRel c H1 st1 G1) (ha : H1 a = some o) (n1 : G1.fz a = none) (n2 : a ∉ G1.io) (n3 : H a = none) :
    SRel c H1 st1 ⟨upd G1.fz a o, G1.io⟩ ∧ Stp G H ⟨upd G1.fz a o, G1.io⟩ H1 ∧ GExt G1 ⟨upd G1.fz a o, G1.io⟩ := by
  have ext : GExt G1 ⟨upd G1.fz a o, G1.io⟩ := ⟨fun b u hb => by
    show upd G1.fz a _ b = _
    rw [upd_ne (ne_of_none hb n1)]; exact hb, fun _ _ z => z⟩
  refine ⟨⟨fun b u hb => ?_, S1.nd, fun b hb => ?_, S1.len, fun i b o q1 q2 => ?_⟩, ⟨s1.toGExt.trans ext, s1.keep, s1.live, fun b o' hb hz => ?_, s1.nio⟩, ext⟩
  · by_cases eb : b = a
    · have hb' : upd G1.fz a o b = some u := hb
      rw [eb, upd_same] at hb'
      rw [eb, ha]; exact hb'
    · have hb' : upd G1.fz a o b = some u := hb
      rw [upd_ne eb] at hb'
      exact S1.fzH b u hb'
  · show upd G1.fz a _ b = none
    rw [upd_ne (show b ≠ a from fun z => n2 (by rw [← z]; exact hb))]
    exact S1.iofz b hb
  · have q := S1.obj i b o q1 q2
    cases o with
    | lst qs =>
      obtain ⟨ws, z, rr⟩ := q
      exact ⟨ws, z, rr.up ext⟩
    | ins cl ns qs =>
      obtain ⟨C, dx, fvs, z, hc, hn, rr⟩ := q
      exact ⟨C, dx, fvs, z, hc, hn, rr.up ext⟩
  · show upd G1.fz a _ b = none
    rw [upd_ne (ne_of_none hb n3)]
    exact s1.nfz b o' hb hz
theorem SObj.up {a : Addr} {so : SO} (h : SObj c G H a so) (e : GExt G G1) : SObj c G1 H a so := by
  cases so with
  | lst qs =>
    obtain ⟨ws, z, rr⟩ := h
    exact ⟨ws, z, rr.up e⟩
  | ins cl ns qs =>
    obtain ⟨C, dx, fvs, z, hc, hn, rr⟩ := h
    exact ⟨C, dx, fvs, z, hc, hn, rr.up e⟩
theorem SObj.at {a : Addr} {so : SO} {H' : Hp} (h : SObj c G H a so) (e : H' a = H a) : SObj c G H' a so := by
  cases so with
  | lst qs =>
    obtain ⟨ws, z, rr⟩ := h
    exact ⟨ws, by rw [e]; exact z, rr⟩
  | ins cl ns qs =>
    obtain ⟨C, dx, fvs, z, hc, hn, rr⟩ := h
    exact ⟨C, dx, fvs, by rw [e]; exact z, hc, hn, rr⟩
theorem storeOld {a : Addr} {so : SO} (s1 : Stp G H G1 H1) (S1 : SRel c H1 st1 G1) (ha : SObj c G1 H1 a so) (n1 : G1.fz a = none) (n2 : a ∉ G1.io) (n3 : H a = none) :
    SRel c H1 (st1 ++ [so]) ⟨G1.fz, G1.io ++ [a]⟩ ∧ Stp G H ⟨G1.fz, G1.io ++ [a]⟩ H1 ∧ (⟨G1.fz, G1.io ++ [a]⟩ : Gh).io[st1.length]? = some a := by
  have at_ : ∀ (i : Nat) (b : Addr), (G1.io ++ [a])[i]? = some b → (i < G1.io.length ∧ G1.io[i]? = some b) ∨ (i = G1.io.length ∧ b = a) := fun i b h => by
    by_cases hi : i < G1.io.length
    · rw [List.getElem?_append_left hi] at h
      exact .inl ⟨hi, h⟩
    · rw [List.getElem?_append_right (Nat.le_of_not_lt hi)] at h
      have : i - G1.io.length = 0 := by
        cases e : i - G1.io.length with
        | zero => rfl
        | succ n => rw [e] at h; simp at h
      rw [this] at h
      cases h
      exact .inr ⟨by omega, rfl⟩
  have ext : GExt G1 ⟨G1.fz, G1.io ++ [a]⟩ := ⟨fun _ _ h => h, fun i b h => by
    show (G1.io ++ [a])[i]? = some b
    rw [List.getElem?_append_left (List.getElem?_eq_some_iff.mp h).1]
    exact h⟩
  refine ⟨⟨S1.fzH, fun i j b h1 h2 => ?_, fun b hb => ?_, by simp [S1.len], fun i b o h1 h2 => ?_⟩, ⟨s1.toGExt.trans ext, s1.keep, s1.live, s1.nfz, fun b o hb hn => ?_⟩, ?_⟩
  · rcases at_ i b h1 with ⟨i1, h1⟩ | ⟨i1, e1⟩
    · rcases at_ j b h2 with ⟨j1, h2⟩ | ⟨j1, e2⟩
      · exact S1.nd i j b h1 h2
      · exact absurd (List.mem_of_getElem? (e2 ▸ h1)) n2
    · rcases at_ j b h2 with ⟨j1, h2⟩ | ⟨j1, e2⟩
      · exact absurd (List.mem_of_getElem? (e1 ▸ h2)) n2
      · rw [i1, j1]
  · rcases List.mem_append.mp hb with hb | hb
    · exact S1.iofz b hb
    · rw [List.mem_singleton.mp hb]
      exact n1
  · rcases at_ i b h1 with ⟨i1, h1⟩ | ⟨i1, e1⟩
    · rw [S1.len] at i1
      rw [List.getElem?_append_left i1] at h2
      exact (S1.obj i b o h1 h2).up ext
    · rw [S1.len] at i1
      rw [i1, List.getElem?_concat_length] at h2
      cases h2
      rw [e1]
      exact ha.up ext
  · intro hm
    rcases List.mem_append.mp hm with hm | hm
    · exact s1.nio b o hb hn hm
    · rw [List.mem_singleton.mp hm, n3] at hb
      cases hb
  · show (G1.io ++ [a])[st1.length]? = some a
    rw [← S1.len, List.getElem?_concat_length]
/-- an object of the store is written -/
theorem SRel.setObj {i : Nat} {a : Addr} {so : SO} {o : HO} (S : SRel c H st G) (hi : G.io[i]? = some a) (h : SObj c G (upd H a o) a so) : SRel c (upd H a o) (st.set i so) G ∧ Stp G H G (upd H a o) := by
  have hf : G.fz a = none := S.iofz a (List.mem_of_getElem? hi)
  refine ⟨⟨fun b u hb => by rw [upd_ne (ne_of_none hb hf)]; exact S.fzH b u hb, S.nd, S.iofz, by simp [S.len], fun j b u h1 h2 => ?_⟩, ⟨.refl G, fun b u hb hn => ?_, fun b u hb => ?_, fun b u hb hz => hz, fun b u hb hn => hn⟩⟩
  · rcases getq_set h2 with ⟨e, _, e1⟩ | ⟨ne, g2⟩
    · subst e e1
      rw [hi] at h1
      cases h1
      exact h
    · exact (S.obj j b u h1 g2).at (upd_ne fun e => ne (S.nd j i b h1 (by rw [e]; exact hi)))
  · rw [upd_ne (show b ≠ a from fun z => hn (by rw [z]; exact List.mem_of_getElem? hi))]
    exact hb
  · by_cases e : b = a
    · exact ⟨o, by rw [e, upd_same]⟩
    · exact ⟨u, by rw [upd_ne e]; exact hb⟩
/-- the instance that is being made, at a name -/
theorem Rel.insAt {i cl : Nat} {ns : List Str} {ps : List PV} (R : Rel c B σ ρ H st G) (h : ρ[i]? = some (.ins cl ns ps)) : ∃ a C dx fvs, σ[i]? = some (some (.ref a)) ∧ B.self = some a ∧ H a = some (.ins C dx fvs) ∧ c.cm cl = some C ∧ fvs.map (·.1) = ns ∧ RepVs c G (fvs.map (·.2)) ps ∧ G.fz a = none ∧ a ∉ G.io ∧ B.H a = none := by
  have hi : i < σ.length := by rw [← R.len2]; exact (List.getElem?_eq_some_iff.mp h).1
  obtain ⟨a, C, dx, fvs, hv, q⟩ := R.slot i _ σ[i] h (List.getElem?_eq_getElem hi)
  exact ⟨a, C, dx, fvs, by rw [List.getElem?_eq_getElem hi, hv], q⟩
theorem Rel.setIns {i cl : Nat} {a C dx : Addr} {ns ns' : List Str} {ps ps' : List PV} {fvs' : List (Str × V)} (R : Rel c B σ ρ H st G) (h : ρ[i]? = some (.ins cl ns ps)) (hσ : σ[i]? = some (some (.ref a))) (hs : B.self = some a) (n1 : G.fz a = none)
    (n2 : a ∉ G.io) (n3 : B.H a = none) (hc : c.cm cl = some C) (hn : fvs'.map (·.1) = ns') (r : RepVs c G (fvs'.map (·.2)) ps') : Rel c B σ (ρ.set i (.ins cl ns' ps')) (upd H a (.ins C dx fvs')) st G := by
  refine ⟨R.toSRel.updOut n1 n2, R.base.updOut n3, by simp [R.len2], fun j sw y h1 h2 => ?_, fun j l sw sx b h1 h2 h3 h4 h5 h6 => ?_⟩
  · rcases getq_set h1 with ⟨ej, _, e1⟩ | ⟨ne, g1⟩
    · subst ej
      rw [hσ] at h2
      cases h2
      rw [e1]
      exact ⟨a, C, dx, fvs', rfl, hs, upd_same, hc, hn, r, n1, n2, n3⟩
    · have q := R.slot j sw y g1 h2
      cases sw with
      | un => trivial
      | val p => exact q
      | own qs =>
        obtain ⟨b, ws, e1, e2, q⟩ := q
        exact ⟨b, ws, e1, by rw [upd_ne (show b ≠ a from fun z => ne (R.dist j i _ _ a g1 h rfl rfl (by rw [h2, e1, z]) hσ))]; exact e2, q⟩
      | ins cl ns qs =>
        obtain ⟨b, C, dx, fvs, e1, es, e2, q⟩ := q
        exact ⟨b, C, dx, fvs, e1, es, by rw [upd_ne (show b ≠ a from fun z => ne (R.dist j i _ _ a g1 h rfl rfl (by rw [h2, e1, z]) hσ))]; exact e2, q⟩
  · have own : ∀ (j : Nat) (sw : SV), (ρ.set i (.ins cl ns' ps'))[j]? = some sw → sw.isOwn = true → ∃ sw', ρ[j]? = some sw' ∧ sw'.isOwn = true := fun j sw q1 q2 => by
      rcases getq_set q1 with ⟨ej, _, _⟩ | ⟨_, g1⟩
      · exact ⟨_, by rw [ej]; exact h, rfl⟩
      · exact ⟨sw, g1, q2⟩
    obtain ⟨s1, g1, k1⟩ := own j sw h1 h3
    obtain ⟨s2, g2, k2⟩ := own l sx h2 h4
    exact R.dist j l s1 s2 b g1 g2 k1 k2 h5 h6
theorem RepVs.fewer {vs : List V} {ps : List PV} {n : Nat} (r : RepVs c G vs ps) (h : vs.length = n) : ps.length = n := by rw [← r.len, h]
end
section
variable {cm : Nat → Option Addr} {X : Cx} {W : WX} {pos : Pos} {m mo : EM} {e o : Expr} {f x : Str} {cl : Nat} {C : Addr}
/-- o.f -/
theorem ce_attr (he : CE cm X W m e) (hcm : cm cl = some C) (hc : Cls X.K C) (hn : NoAttr X.K C f) (hb : attributeBase e f X.env (eval e X.env) = eval e X.env := by rfl) : CE cm X W (eAttr cl f m) (.Attribute e f pos) :=
  PE.weak (pe_fld he hb) fun σ H Q ⟨B, ρ, st, G, R, h⟩ => ⟨B, ρ, st, G, R, Out.bindR early_E R h fun p st1 H1 G1 x s1 R1 rx h1 => by
    cases ei : insOf cl p st1 with
    | none => rw [ei] at h1; exact h1.elim
    | some z =>
      obtain ⟨ns, vs⟩ := z
      rw [ei] at h1
      obtain ⟨q, eq, h2⟩ := out_ofOpt h1
      obtain ⟨a, C', dx, fvs, ev, ha, hC, hn', rv⟩ := insOf_at R1.toSRel rx ei
      have hC : cm cl = some C' := hC
      rw [hcm] at hC
      cases hC
      obtain ⟨v, hv, rq⟩ := look2_some hn' rv eq
      exact ⟨a, C, dx, fvs, v, ev, ha, hc, hn, hv, h2 H1 G1 v (.refl G1 H1) R1.toSRel rq⟩⟩
theorem putAt_at {c : Cn} {H : Hp} {st st' : Store} {G : Gh} {p q : PV} {v y : V} (S : SRel c H st G) (r : RepV c G v p) (ry : RepV c G y q) (h : putAt st cl p f q = some st') :
    ∃ a C dx fvs, v = .ref a ∧ H a = some (.ins C dx fvs) ∧ c.cm cl = some C ∧ fvs.length < 100 ∧ SRel c (upd H a (.ins C dx (putF f y fvs))) st' G ∧ Stp G H G (upd H a (.ins C dx (putF f y fvs))) := by
  cases p with
  | ref i =>
    have h : (match st[i]? with | some (SO.ins k ms ws) => if k = cl then (if ms.length < 100 then some (st.set i (.ins k (put2 ms ws f q).1 (put2 ms ws f q).2)) else none) else none | _ => none) = some st' := h
    cases r with
    | @ref a _ h1 =>
      cases e : st[i]? with
      | none => rw [e] at h; cases h
      | some o =>
        rw [e] at h
        cases o with
        | lst xs => cases h
        | ins k ms ws =>
          have h : (if k = cl then (if ms.length < 100 then some (st.set i (.ins k (put2 ms ws f q).1 (put2 ms ws f q).2)) else none) else none) = some st' := h
          obtain ⟨e2, h'⟩ := ite_some h
          obtain ⟨hl, h''⟩ := ite_some h'
          clear h h'
          subst e2
          cases h''
          obtain ⟨C, dx, fvs, q1, q2, q3, q4⟩ := S.obj i _ _ h1 e
          obtain ⟨k1, k2⟩ := put2_rep (f := f) ry q3 q4
          obtain ⟨S2, s2⟩ := S.setObj (o := .ins C dx (putF f y fvs)) (so := .ins k (put2 ms ws f q).1 (put2 ms ws f q).2) h1 ⟨C, dx, _, upd_same, q2, k1, k2⟩
          exact ⟨a, C, dx, fvs, rfl, q1, q2, by rw [← q3] at hl; simpa using hl, S2, s2⟩
  | _ => cases h
/-- o.f = e -/
theorem cs_attr {pos' : Pos} (ho : CE cm X W mo o) (he : CE cm X W m e) (hcm : cm cl = some C) (hc : Cls X.K C) (hn : NoAttr X.K C f) (hs : swapsWith e (some (.Attribute o f pos')) pos.line X.env = pure false := by rfl) : CS cm X W (sAttr cl f mo m) (.Assign [.Attribute o f pos'] e pos) :=
  PS.weak (ps_fld ho he hs) fun D σ H ⟨B, ρ, st, G, R, h⟩ => ⟨B, ρ, st, G, R, OutS.bind R h fun q st1 H1 G1 y s1 R1 ry h1 => ⟨B, ρ, st1, G1, R1, OutS.bind R1 h1 fun p st2 H2 G2 x s2 R2 rx h2 => by
    cases ep : putAt st2 cl p f q with
    | none => rw [ep] at h2; exact h2.elim
    | some st3 =>
      rw [ep] at h2
      obtain ⟨a, C', dx, fvs, ev, ha, hC, hl, S3, s3⟩ := putAt_at R2.toSRel rx (ry.up s2.toGExt) ep
      have hC : cm cl = some C' := hC
      rw [hcm] at hC
      cases hC
      exact ⟨a, C, dx, fvs, ev, ha, hc, hn, by omega, h2 σ _ G2 (.refl G2) (R2.step s3 S3)⟩⟩⟩
/-- o.f op= e -/
theorem cs_attrAug {op : Operator} {rd : V → V → Hp → VK → Prop} {g : PV → PV → Option PV} {tpos : Pos} (hop : InOp X op rd) (hg : ∀ G H (st : Store) v w p q z Q, SRel (cnOf X cm) H st G → RepV (cnOf X cm) G v p → RepV (cnOf X cm) G w q → g p q = some z → (∀ x, RepV (cnOf X cm) G x z → Q x H) → rd v w H Q)
    (ho : CE cm X W mo o) (he : CE cm X W m e) (hcm : cm cl = some C) (hc : Cls X.K C) (hn : NoAttr X.K C f) : CS cm X W (sAttrAug g cl f mo m) (.AugAssign (.Attribute o f tpos) op e pos) :=
  PS.weak (ps_fldaug ho he hop) fun D σ H ⟨B, ρ, st, G, R, h⟩ => ⟨B, ρ, st, G, R, OutS.bind R h fun p st1 H1 G1 x s1 R1 rx h1 => by
    cases ei : insOf cl p st1 with
    | none => rw [ei] at h1; exact h1.elim
    | some z =>
      obtain ⟨ns, vs⟩ := z
      rw [ei] at h1
      obtain ⟨a, C', dx, fvs, ev, ha, hC, hn', rv⟩ := insOf_at R1.toSRel rx ei
      have hC : cm cl = some C' := hC
      rw [hcm] at hC
      cases hC
      have h1 : OutS _ _ _ _ _ (match look2 ns vs f with
        | some old => (m ρ st1).bindS ρ fun q st2 => (match g old q with
          | some z => (match putAt st2 cl p f z with
            | some st3 => .next ρ st3
            | none => .bad)
          | none => .bad)
        | none => .bad) := h1
      cases el : look2 ns vs f with
      | none => rw [el] at h1; exact h1.elim
      | some old =>
        rw [el] at h1
        obtain ⟨v, hv, rq⟩ := look2_some hn' rv el
        refine ⟨a, C, dx, fvs, v, ev, ha, hc, hn, hv, B, ρ, st1, G1, R1, OutS.bind R1 h1 fun q st2 H2 G2 y s2 R2 ry h2 => ?_⟩
        have h2 : OutS _ _ _ _ _ (match g old q with
          | some z => (match putAt st2 cl p f z with
            | some st3 => SR.next ρ st3
            | none => .bad)
          | none => .bad) := h2
        cases eg : g old q with
        | none => rw [eg] at h2; exact h2.elim
        | some z =>
          rw [eg] at h2
          have h2 : OutS _ _ _ _ _ (match putAt st2 cl p f z with
            | some st3 => SR.next ρ st3
            | none => .bad) := h2
          refine hg G2 H2 st2 v y old q z _ R2.toSRel (rq.up s2.toGExt) ry eg fun x' rx' => ?_
          cases ep : putAt st2 cl p f z with
          | none => rw [ep] at h2; exact h2.elim
          | some st3 =>
            rw [ep] at h2
            obtain ⟨a', C', dx', fvs', ev', ha', hC', hl', S3, s3⟩ := putAt_at R2.toSRel (rx.up s2.toGExt) rx' ep
            have hC' : cm cl = some C' := hC'
            rw [hcm] at hC'
            cases hC'
            rw [ev] at ev'
            cases ev'
            exact ⟨dx', fvs', ha', by omega, h2 σ _ G2 (.refl G2) (R2.step s3 S3)⟩⟩
theorem aug_add : InOp X .Add L2.rAdd := in_add
theorem aug_rd_add {c : Cn} : ∀ G H (st : Store) v w p q z Q, SRel c H st G → RepV c G v p → RepV c G w q → (match p, q with | .int a, .int b => some (PV.int (a + b)) | _, _ => none) = some z → (∀ x, RepV c G x z → Q x H) → L2.rAdd v w H Q := fun G H st v w p q z Q S r1 r2 e k => by
  cases r1 with
  | @int i =>
    cases r2 with
    | @int j =>
      cases e
      exact ⟨i, j, rfl, rfl, k _ .int⟩
    | _ => cases e
  | _ => cases e
theorem aug_rd_sub {c : Cn} : ∀ G H (st : Store) v w p q z Q, SRel c H st G → RepV c G v p → RepV c G w q → pSub p q = some z → (∀ x, RepV c G x z → Q x H) → L2.rSub v w H Q := fun G H st v w p q z Q S r1 r2 e k => by
  cases r1 with
  | @int i =>
    cases r2 with
    | @int j =>
      cases e
      exact ⟨i, j, rfl, rfl, k _ .int⟩
    | _ => cases e
  | _ => cases e
end
end BR
set_option Elab.async false
set_option linter.all false
set_option maxRecDepth 100000
/-! BrI: methods, properties, making; lists of the store. -/
namespace BR
open PySem PySem.Spec PyProof.Rows L2
/-! ### calls whose wish of exceptions depends on the slots -/
section
variable {X : Cx} {CX : CXT} {k : Nat} {f C : Addr} {fd : FuncData} {ps : List Str} {sp : Sp} {E : L2.St → XK} {x m : Str} {p pos apos : Pos} {e o : Expr} {es : List Expr} {ta : TE} {t : TA}
def tMethS (C : Addr) (m : Str) (sp : Sp) (E : L2.St → XK) (ta : TE) (t : TA) : TE := fun σ H Q => ta σ H fun x H1 => ∃ a dx fs, x = .ref a ∧ H1 a = some (.ins C dx fs) ∧ fs.lookup m = none ∧ t σ H1 fun vs H2 => sp (x :: vs) H2 Q (E σ)
theorem pe_methS {pl : Sem Bool} (he : PE X o ta) (c : Cls X.K C) (hm : Meth X.K C m f) (F : FnOk X.prog X.w X.K X.mg X.base CX k f fd ps sp) (hr : Room k X.A) (hb : Binds X.K fd ps []) (hx : ∀ σ, PassesAt CX X σ (E σ)) (ha : PA X (e :: es) t)
    (hst : starEach (e :: es) X.env = (false, eval e X.env) :: starEach es X.env := by rfl) (hpl : (backTo pos (starEach es X.env)).any (·.1) = false := by rfl)
    (ht : eval (.Call (.Attribute o m apos) (e :: es) [] pos) X.env = (do
      let ov ← eval o X.env
      standAt apos.atName
      let (f, first) ← holding [ov] (getMethod ov m pl)
      callWith pos f first (backTo pos (starEach (e :: es) X.env)) (backToKw pos (keywordEach [] X.env))) := by rfl) :
    PE X (.Call (.Attribute o m apos) (e :: es) [] pos) (tMethS C m sp E ta t) := by
  refine ⟨fun pins s σ H Q I h => ?_⟩
  refine PySem.W.methodCall_KW (pl := pl) (thn (he.run pins s σ H _ I h) fun u s1 ⟨x, H1, I1, rx, a, dx, fs, ex, ea, l, q⟩ => ?_) ht
  subst ex
  obtain rfl : u = Value.ref a := rx
  refine getmeth_ok I1 ea c hm l ?_
  refine PySem.W.callWith_K (first := [.ref a]) (h₀ := X.base) I.ok.mod.kin hm.kp (thn (ha.run pos pins s1 σ H1 _ I1 q) fun us s2 ⟨vs, H2, I2, r, q2⟩ => ⟨I2.kIn, ?_⟩) hst hpl
  exact run_fnS (us := .ref a :: us) (vs := .ref a :: vs) F hr hb (hx σ) I2 (.cons rfl r) q2
theorem pe_methS0 {pl : Sem Bool} (he : PE X o ta) (c : Cls X.K C) (hm : Meth X.K C m f) (F : FnOk X.prog X.w X.K X.mg X.base CX k f fd ps sp) (hr : Room k X.A) (hb : Binds X.K fd ps []) (hx : ∀ σ, PassesAt CX X σ (E σ))
    (ht : eval (.Call (.Attribute o m apos) [] [] pos) X.env = (do
      let ov ← eval o X.env
      standAt apos.atName
      let (f, first) ← holding [ov] (getMethod ov m pl)
      callWith pos f first (backTo pos (starEach [] X.env)) (backToKw pos (keywordEach [] X.env))) := by rfl) :
    PE X (.Call (.Attribute o m apos) [] [] pos) (tMethS C m sp E ta tNil) := by
  refine ⟨fun pins s σ H Q I h => ?_⟩
  refine PySem.W.methodCall_KW (pl := pl) (thn (he.run pins s σ H _ I h) fun u s1 ⟨x, H1, I1, rx, a, dx, fs, ex, ea, l, q⟩ => ?_) ht
  subst ex
  obtain rfl : u = Value.ref a := rx
  refine getmeth_ok I1 ea c hm l ?_
  exact PySem.W.callWith_K0 (first := [.ref a]) I1.kIn hm.kp (run_fnS (us := [.ref a]) (vs := [.ref a]) F hr hb (hx σ) I1 (.cons rfl .nil) q)
theorem run_makeS {pins : List (Addr × Obj)} {σ : L2.St} {H : Hp} {s : Shared} {Q : VK} {us : List Value} {vs : List V} (M : Mk X.K C f) (F : FnOk X.prog X.w X.K X.mg X.base CX k f fd ps sp) (hr : Room (k + 1) X.A) (hb : Binds X.K fd ps [])
    (hx : PassesAt CX X σ (E σ)) (I : Inv X pins σ H s) (r : Vals vs us)
    (h : ∀ x dx, H x = none → H dx = none → dx ≠ x → sp (.ref x :: vs) (upd (upd H dx (.own x)) x (.ins C dx [])) (fun v H2 => v = .non ∧ Q (.ref x) H2) (E σ))
    (hxN : ∀ x dx, H x = none → H dx = none → dx ≠ x → PassesAt CX X σ (E σ)) :
    wpAny (model X.prog X.w) X.A (call (.ref C) us) (EP X pins σ Q) X.xe s := by
  have hq := h (s.heap.objs.size + 1) s.heap.objs.size (I.hok.fresh (Nat.le_succ _)) (I.hok.fresh (Nat.le_refl _)) (Nat.ne_of_lt (Nat.lt_succ_self _))
  have I2 := Inv.made (C := C) I
  have r2 : Vals (V.ref (s.heap.objs.size + 1) :: vs) (Value.ref (s.heap.objs.size + 1) :: us) := .cons rfl r
  have hl : (Value.ref (s.heap.objs.size + 1) :: us).length = ps.length := by
    have e := r2.length
    rw [F.len _ _ _ _ hq] at e
    exact e.symm
  have b := hb _ (Value.ref (s.heap.objs.size + 1) :: us) I2.kIn (by rw [List.append_nil]; exact hl)
  rw [List.append_nil] at b
  refine wpAny_call (make_map (f := f) I.kIn M.makes M.init (beq_iff_eq.mp M.fn) (codeAny_mono (F.run _ X.stack _ _ ⟨Value.ref (s.heap.objs.size + 1) :: us, []⟩ (Value.ref (s.heap.objs.size + 1) :: us) _ _ (E σ) (hr.make C us [])
    (I2.env0.make C us []) b r2 hq) fun r s' hq' => ?_))
  cases r with
  | error e => exact hx pins _ _ e s' I2 hq'
  | ok fl =>
    cases fl with
    | ret u =>
      obtain ⟨v, H', I3, rv, ev, q3⟩ := I2.after hq'
      subst ev
      exact ⟨rv, ⟨V.ref (s.heap.objs.size + 1), H', I3, rfl, q3⟩⟩
    | next => exact False.elim hq'
    | brk => exact False.elim hq'
    | cont => exact False.elim hq'
def tMakeS (C : Addr) (sp : Sp) (E : L2.St → XK) (t : TA) : TE := fun σ H Q => t σ H fun vs H1 => ∀ x dx, H1 x = none → H1 dx = none → dx ≠ x →
  sp (.ref x :: vs) (upd (upd H1 dx (.own x)) x (.ins C dx [])) (fun v H2 => v = .non ∧ Q (.ref x) H2) (E σ)
theorem pe_makeS (M : Mk X.K C f) (F : FnOk X.prog X.w X.K X.mg X.base CX k f fd ps sp) (hr : Room (k + 1) X.A) (hg : Gl X x) (hm : X.mg x = some (.ref C)) (hb : Binds X.K fd ps []) (hx : ∀ σ, PassesAt CX X σ (E σ))
    (ha : PA X (e :: es) t) (hdb : (x == ("__debug__" : Str)) = false := by decide) (he : starEach (e :: es) X.env = (false, eval e X.env) :: starEach es X.env := by rfl) (hpl : (backTo pos (starEach es X.env)).any (·.1) = false := by rfl) :
    PE X (.Call (.Name x p) (e :: es) [] pos) (tMakeS C sp E t) := by
  refine ⟨fun pins s σ H Q I h => ?_⟩
  refine wpAny_Call_Name_kw (ld_glob I hg hm ?_ hdb)
  refine PySem.W.callWith_K (h₀ := X.base) I.ok.mod.kin M.kp (thn (ha.run pos pins s σ H _ I h) fun us s1 ⟨vs, H1, I1, r, q⟩ => ⟨I1.kIn, ?_⟩) he hpl
  exact run_makeS M F hr hb (hx σ) I1 r q (fun _ _ _ _ _ => hx σ)
/-- o.f = v, as a target -/
def gFld (K : PySem.W.Frag) (to : TE) (f : Str) : TG := fun y σ H Q => to σ H fun x H2 => ∃ a C dx fs, x = .ref a ∧ H2 a = some (.ins C dx fs) ∧ Cls K C ∧ NoAttr K C f ∧ fs.length < 1000 ∧ Q σ (upd H2 a (.ins C dx (putF f y fs)))
theorem pg_fld {f : Str} (ho : PE X o ta) : PG X (.Attribute o f pos) (gFld X.K ta f) := by
  refine ⟨fun pins s σ H v u Q I r h => ?_⟩
  rw [arm_assign_Attribute]
  refine wpAny_bind (wpAny_holding (thn (ho.run pins s σ H _ I h) fun ov s1 ⟨x, H1, I1, r1, a, C, dx, fs, ex, ea, c, n, l, q⟩ => ?_))
  subst ex
  obtain rfl : ov = Value.ref a := r1
  refine wpAny_bind (wpAny_standAt (wpAny_bind (wpAny_holding (setattr_ok I1 ea c n l r fun s3 I3 => ?_))))
  exact wpAny_release ⟨σ, _, I3, q⟩
end
/-! ### the readings -/
/-- what __init__ leaves -/
def rpI (c : Cn) (cl : Nat) (x : Addr) : Hp → Gh → Hp → V → SV → Prop := fun H G' H' v sv => v = .non ∧ match sv with
  | .ins cl' ns vs => ∃ C dx fvs, H' x = some (.ins C dx fvs) ∧ c.cm cl' = some C ∧ fvs.map (·.1) = ns ∧ RepVs c G' (fvs.map (·.2)) vs ∧ G'.fz x = none ∧ x ∉ G'.io ∧ H x = none
  | _ => False
def spI (c : Cn) (cl : Nat) (run : List PV → Store → R SV) : Sp := fun us H Q E => ∃ x dx C H0 vs ps st G, us = .ref x :: vs ∧ H = upd (upd H0 dx (.own x)) x (.ins C dx []) ∧ H0 x = none ∧ H0 dx = none ∧ dx ≠ x ∧ c.cm cl = some C ∧ SRel c H0 st G ∧ RepVs c G vs ps ∧
  Out c (rpI c cl x) G H0 Q E (run ps st)
section
variable {cm : Nat → Option Addr} {X : Cx} {W : WX} {pos p apos : Pos} {m mo : EM} {e o : Expr} {es : List Expr} {f x : Str} {cl id k : Nat} {C fa : Addr} {call : CallT} {fd : FuncData} {ps : List Str} {ar : AM}
theorem out_ins {α β : Type} {c : Cn} {rep : Hp → Gh → Hp → β → α → Prop} {G : Gh} {H : Hp} {Q : β → Hp → Prop} {E : XK} {o : Option (List Str × List PV)} {g : List Str × List PV → R α} (h : Out c rep G H Q E (match o with | some z => g z | none => .bad)) : ∃ z, o = some z ∧ Out c rep G H Q E (g z) := by
  cases o with
  | none => exact h.elim
  | some z => exact ⟨z, rfl, h⟩
/-- o.m(..) -/
theorem cf_meth (he : CE cm X W mo o) (hcm : cm cl = some C) (hc : Cls X.K C) (hmt : Meth X.K C f fa) (F : FnOk X.prog X.w X.K X.mg X.base (L2.CX X.prog X.w) k fa fd ps (spF (cnOf X cm) (call id))) (hr : Room k X.A) (hb : Binds X.K fd ps []) (tk : Takes X W) (ha : CA cm X W ar (e :: es)) {pl : Sem Bool}
    (hst : starEach (e :: es) X.env = (false, eval e X.env) :: starEach es X.env := by rfl) (hpl : (backTo pos (starEach es X.env)).any (·.1) = false := by rfl)
    (ht : eval (.Call (.Attribute o f apos) (e :: es) [] pos) X.env = (do
      let ov ← eval o X.env
      standAt apos.atName
      let (f, first) ← holding [ov] (getMethod ov f pl)
      callWith pos f first (backTo pos (starEach (e :: es) X.env)) (backToKw pos (keywordEach [] X.env))) := by rfl) : CF cm X W (fMeth call id cl f mo ar) (.Call (.Attribute o f apos) (e :: es) [] pos) :=
  PE.weak (pe_methS he hc hmt F hr hb (passAt tk) ha hst hpl ht) fun σ H Q ⟨B, ρ, st, G, R, h⟩ => ⟨B, ρ, st, G, R, Out.bindR early_F R h fun q st1 H1 G1 x s1 R1 rx h1 => by
    cases ei : insOf cl q st1 with
    | none => rw [ei] at h1; exact h1.elim
    | some z =>
    obtain ⟨ns, vs⟩ := z
    rw [ei] at h1
    obtain ⟨a, C', dx, fvs, ev, ha', hC, hn', rv⟩ := insOf_at R1.toSRel rx ei
    have hC : cm cl = some C' := hC
    rw [hcm] at hC
    cases hC
    have h1 : Out _ _ _ _ _ _ (match look2 ns vs f with | none => (ar ρ st1).bind fun ps st2 => call id (q :: ps) st2 | some _ => .bad) := h1
    cases el : look2 ns vs f with
    | some _ => rw [el] at h1; exact h1.elim
    | none =>
      rw [el] at h1
      exact ⟨a, dx, fvs, ev, ha', look2_none hn' rv el, B, ρ, st1, G1, R1, Out.bindR early_F R1 h1 fun qs st2 H2 G2 xs s2 R2 rxs h2 => ⟨q :: qs, st2, G2, R2.toSRel, .cons (rx.up s2.toGExt) rxs, h2⟩⟩⟩
theorem cf_meth0 (he : CE cm X W mo o) (hcm : cm cl = some C) (hc : Cls X.K C) (hmt : Meth X.K C f fa) (F : FnOk X.prog X.w X.K X.mg X.base (L2.CX X.prog X.w) k fa fd ps (spF (cnOf X cm) (call id))) (hr : Room k X.A) (hb : Binds X.K fd ps []) (tk : Takes X W) {pl : Sem Bool}
    (ht : eval (.Call (.Attribute o f apos) [] [] pos) X.env = (do
      let ov ← eval o X.env
      standAt apos.atName
      let (f, first) ← holding [ov] (getMethod ov f pl)
      callWith pos f first (backTo pos (starEach [] X.env)) (backToKw pos (keywordEach [] X.env))) := by rfl) : CF cm X W (fMeth call id cl f mo aNil) (.Call (.Attribute o f apos) [] [] pos) :=
  PE.weak (pe_methS0 he hc hmt F hr hb (passAt tk) ht) fun σ H Q ⟨B, ρ, st, G, R, h⟩ => ⟨B, ρ, st, G, R, Out.bindR early_F R h fun q st1 H1 G1 x s1 R1 rx h1 => by
    cases ei : insOf cl q st1 with
    | none => rw [ei] at h1; exact h1.elim
    | some z =>
    obtain ⟨ns, vs⟩ := z
    rw [ei] at h1
    obtain ⟨a, C', dx, fvs, ev, ha', hC, hn', rv⟩ := insOf_at R1.toSRel rx ei
    have hC : cm cl = some C' := hC
    rw [hcm] at hC
    cases hC
    have h1 : Out _ _ _ _ _ _ (match look2 ns vs f with | none => call id [q] st1 | some _ => .bad) := h1
    cases el : look2 ns vs f with
    | some _ => rw [el] at h1; exact h1.elim
    | none =>
      rw [el] at h1
      exact ⟨a, dx, fvs, ev, ha', look2_none hn' rv el, [q], st1, G1, R1.toSRel, .cons rx .nil, h1⟩⟩
/-- o.f, a property -/
theorem out_noex {α β : Type} {c : Cn} {rep : Hp → Gh → Hp → β → α → Prop} {G : Gh} {H : Hp} {Q : β → Hp → Prop} {E E' : XK} {r : R α} (h : Out c rep G H Q E r.noex) : Out c rep G H Q E' r := by
  cases r with
  | ok a st => exact h
  | _ => exact h.elim
theorem cf_prop {g pp : Addr} (he : CE cm X W mo o) (hcm : cm cl = some C) (hc : Cls X.K C) (hp : PropOf X.K C f pp g) (F : FnOk X.prog X.w X.K X.mg X.base (L2.CX X.prog X.w) k g fd ps (spF (cnOf X cm) (call id))) (hr : Room (k + 1) X.A) (hb : Binds X.K fd ps [])
    (hab : attributeBase o f X.env (eval o X.env) = eval o X.env := by rfl) : CF cm X W (fProp call id cl mo) (.Attribute o f pos) :=
  PE.weak (pe_prop he hc hp F hr hb .nil passL hab) fun σ H Q ⟨B, ρ, st, G, R, h⟩ => ⟨B, ρ, st, G, R, Out.bindR early_F R h fun q st1 H1 G1 x s1 R1 rx h1 => by
    cases ei : insOf cl q st1 with
    | none => rw [ei] at h1; exact h1.elim
    | some z =>
    obtain ⟨ns, vs⟩ := z
    rw [ei] at h1
    obtain ⟨a, C', dx, fvs, ev, ha', hC, hn', rv⟩ := insOf_at R1.toSRel rx ei
    have hC : cm cl = some C' := hC
    rw [hcm] at hC
    cases hC
    subst ev
    exact ⟨a, dx, fvs, rfl, ha', [q], st1, G1, R1.toSRel, .cons rx .nil, out_noex h1⟩⟩
/-- C(..) -/
theorem cf_make {rf : Bool} (M : Mk X.K C fa) (F : FnOk X.prog X.w X.K X.mg X.base (L2.CX X.prog X.w) k fa fd ps (spI (cnOf X cm) cl (call id))) (hr : Room (k + 1) X.A) (hm : X.mg x = some (.ref C)) (hcm : cm cl = some C) (hb : Binds X.K fd ps []) (tk : Takes X W) (ha : CA cm X W ar (e :: es)) (hg : Gl X x := by rfl)
    (hdb : (x == ("__debug__" : Str)) = false := by decide) (he : starEach (e :: es) X.env = (false, eval e X.env) :: starEach es X.env := by rfl) (hpl : (backTo pos (starEach es X.env)).any (·.1) = false := by rfl) : CF cm X W (fMake call id rf ar) (.Call (.Name x p) (e :: es) [] pos) :=
  PE.weak (pe_makeS M F hr hg hm hb (passAt tk) ha hdb he hpl) fun σ H Q ⟨B, ρ, st, G, R, h⟩ => ⟨B, ρ, st, G, R, Out.bindR early_F R h fun qs st1 H1 G1 xs s1 R1 rx h1 => fun x dx hx hdx hne => by
    refine ⟨x, dx, C, H1, xs, qs, st1, G1, rfl, rfl, hx, hdx, hne, hcm, R1.toSRel, rx, ?_⟩
    cases hc : call id qs st1 with
    | bad => rw [hc] at h1; exact h1
    | ex cl ns vs st2 => rw [hc] at h1; exact h1
    | ok sv st2 =>
      rw [hc] at h1
      rintro H2 G2 v s2 S2 ⟨ev, rv⟩
      refine ⟨ev, ?_⟩
      cases sv with
      | ins cl' ns vs =>
        obtain ⟨C', dx', fvs, hx2, hC, hn, rvs, n1, n2, n3⟩ := rv
        have h1 : Out _ (rpF (cnOf X cm)) G1 H1 Q _ (if rf then BR.R.ok (.val (.ref st2.length)) (st2 ++ [.ins cl' ns vs]) else .ok (.val (.ins cl' ns vs)) st2) := h1
        cases rf with
        | false =>
          obtain ⟨S3, s3, ext⟩ := frzOld s2 S2 hx2 n1 n2 n3
          exact h1 H2 _ (.ref x) s3 S3 (RepV.ins (by show upd G2.fz x _ x = _; exact upd_same) hC hn (rvs.up ext))
        | true =>
          obtain ⟨S3, s3, hi⟩ := storeOld (so := .ins cl' ns vs) s2 S2 ⟨C', dx', fvs, hx2, hC, hn, rvs⟩ n1 n2 n3
          exact h1 H2 _ (.ref x) s3 S3 (RepV.ref hi)
      | _ => exact rv.elim⟩
/-! an instance that is being made -/
theorem out_self {c : Cn} {B : Bs} {D : Ends} {G : Gh} {ρ : Env} {i : Nat} {g : Nat → List Str → List PV → SR} (h : OutS c W B D G (match ρ[i]? with | some (.ins k ns vs) => g k ns vs | _ => .bad)) : ∃ k ns vs, ρ[i]? = some (.ins k ns vs) ∧ OutS c W B D G (g k ns vs) := by
  cases e : ρ[i]? with
  | none => rw [e] at h; exact h.elim
  | some sv =>
    rw [e] at h
    cases sv with
    | ins k ns vs => exact ⟨k, ns, vs, rfl, h⟩
    | _ => exact h.elim
/-- self.f = e -/
theorem cs_self (i : Nat) {p1 pos' : Pos} (he : CE cm X W m e) (hcm : cm cl = some C) (hc : Cls X.K C) (hnf : NoAttr X.K C f) (hN : X.N[i]? = some x := by rfl) (hv : Vis X.env.scope x := by first | exact Or.inl rfl | exact Or.inr (Or.inl rfl) | exact Or.inr (Or.inr rfl)) (hd : (x == ("__debug__" : Str)) = false := by decide)
    (hcd : (x == ("__classdict__" : Str)) = false := by decide) (hs : swapsWith e (some (.Attribute (.Name x p1) f pos')) pos.line X.env = pure false := by rfl) : CS cm X W (sSelf cl i f m) (.Assign [.Attribute (.Name x p1) f pos'] e pos) :=
  PS.weak (ps_fld (pe_var hN hv hd hcd) he hs) fun D σ H ⟨B, ρ, st, G, R, h⟩ => ⟨B, ρ, st, G, R, OutS.bind R h fun q st1 H1 G1 y s1 R1 ry h1 => by
    obtain ⟨k, ns, vs, er, h2⟩ := out_self h1
    clear h1
    obtain ⟨a, C', dx, fvs, hσ, hself, ha, hC, hn, rv, n1, n2, n3⟩ := R1.insAt er
    by_cases hkl : k = cl ∧ ns.length < 100
    · rw [if_pos hkl] at h2
      obtain ⟨hk, hl⟩ := hkl
      subst hk
      obtain rfl : C = C' := Option.some.inj (hcm.symm.trans hC)
      obtain ⟨k1, k2⟩ := put2_rep (f := f) ry hn rv
      refine ⟨_, hσ, a, C, dx, fvs, rfl, ha, hc, hnf, ?_, h2 σ _ G1 (.refl G1) (R1.setIns er hσ hself n1 n2 n3 hC k1 k2)⟩
      rw [← hn] at hl
      simp at hl
      omega
    · rw [if_neg hkl] at h2
      exact h2.elim⟩
theorem cg_self (i : Nat) {p1 : Pos} (hcm : cm cl = some C) (hc : Cls X.K C) (hnf : NoAttr X.K C f) (hN : X.N[i]? = some x := by rfl) (hv : Vis X.env.scope x := by first | exact Or.inl rfl | exact Or.inr (Or.inl rfl) | exact Or.inr (Or.inr rfl)) (hd : (x == ("__debug__" : Str)) = false := by decide)
    (hcd : (x == ("__classdict__" : Str)) = false := by decide) : CG cm X [] (gSelf cl i f) (.Attribute (.Name x p1) f pos) :=
  PG.weak (pg_fld (pe_var hN hv hd hcd)) fun v σ H Q ⟨B, ρ, st, G, q, R, ry, ρ1, st1, eg, k⟩ => by
    have eg : (match ρ[i]? with | some (.ins c ns vs) => if c = cl ∧ ns.length < 100 then some (ρ.set i (.ins c (put2 ns vs f q).1 (put2 ns vs f q).2), st) else none | _ => none) = some (ρ1, st1) := eg
    cases er : ρ[i]? with
    | none => rw [er] at eg; cases eg
    | some sv =>
      rw [er] at eg
      cases sv with
      | ins k' ns vs =>
        have eg : (if k' = cl ∧ ns.length < 100 then some (ρ.set i (SV.ins k' (put2 ns vs f q).1 (put2 ns vs f q).2), st) else none) = some (ρ1, st1) := eg
        obtain ⟨⟨hk, hl⟩, e2⟩ := some_ite eg
        cases e2
        obtain ⟨a, C', dx, fvs, hσ, hself, ha, hC, hn, rv, n1, n2, n3⟩ := R.insAt er
        clear eg
        subst hk
        obtain rfl : C = C' := Option.some.inj (hcm.symm.trans hC)
        obtain ⟨k1, k2⟩ := put2_rep (f := f) ry hn rv
        refine ⟨_, hσ, a, C, dx, fvs, rfl, ha, hc, hnf, ?_, k σ _ G (.refl G) rfl (fun _ _ => rfl) (R.setIns er hσ hself n1 n2 n3 hC k1 k2)⟩
        rw [← hn] at hl
        simp at hl
        omega
      | _ => cases eg
/-- self.f -/
theorem ce_self (i : Nat) {p1 : Pos} (hcm : cm cl = some C) (hc : Cls X.K C) (hnf : NoAttr X.K C f) (hN : X.N[i]? = some x := by rfl) (hv : Vis X.env.scope x := by first | exact Or.inl rfl | exact Or.inr (Or.inl rfl) | exact Or.inr (Or.inr rfl)) (hd : (x == ("__debug__" : Str)) = false := by decide)
    (hcd : (x == ("__classdict__" : Str)) = false := by decide) (hab : attributeBase (.Name x p1) f X.env (eval (.Name x p1) X.env) = eval (.Name x p1) X.env := by rfl) : CE cm X W (eSelf cl i f) (.Attribute (.Name x p1) f pos) :=
  PE.weak (pe_fld (pe_var hN hv hd hcd) hab) fun σ H Q ⟨B, ρ, st, G, R, h⟩ => by
    have h : Out _ _ _ _ _ _ (match ρ[i]? with | some (.ins c ns vs) => if c = cl then BR.R.ofOpt (look2 ns vs f) st else .bad | _ => .bad) := h
    cases er : ρ[i]? with
    | none => rw [er] at h; exact h.elim
    | some sv =>
      rw [er] at h
      cases sv with
      | ins k' ns vs =>
        have h : Out (cnOf X cm) (rpE (cnOf X cm)) G H Q (fun cls d H' => W cls d σ H') (if k' = cl then BR.R.ofOpt (look2 ns vs f) st else .bad) := h
        by_cases hk : k' = cl
        · rw [if_pos hk] at h
          obtain ⟨q, eq, h2⟩ := out_ofOpt h
          obtain ⟨a, C', dx, fvs, hσ, hself, ha, hC, hn, rv, n1, n2, n3⟩ := R.insAt er
          subst hk
          obtain rfl : C = C' := Option.some.inj (hcm.symm.trans hC)
          obtain ⟨v, hv', rq⟩ := look2_some hn rv eq
          exact ⟨_, hσ, a, C, dx, fvs, v, rfl, ha, hc, hnf, hv', h2 H G v (.refl G H) R.toSRel rq⟩
        · rw [if_neg hk] at h
          exact h.elim
      | _ => exact h.elim
end
/-! ### an __init__ keeps its promise -/
section
variable {P : Program} {w : World} {K : PySem.W.Frag} {mg : Str → Option Value} {base : Heap} {cm : Nat → Option Addr} {T : Nat → Option Fn}
theorem runFn_argsI {T : Nat → Option Fn} {k id : Nat} {fn : Fn} {ps : List PV} {st : Store} (hT : T id = some fn) (h : runFn T k id ps st ≠ .bad) : ps.length = fn.ps := runFn_args hT h
theorem ok_ini {x qual : Str} {params : Arguments} {body : List Stmt} {scope : Scope} {f : Addr} {fd : FuncData} {N ps : List Str} {j k id cl : Nat} {fn : Fn} (F : FunD K x qual params body scope [] [] f fd) (S : FnScope N ps scope) (hT : T id = some fn) (hini : fn.ini = some cl) (hps : fn.ps + 1 = ps.length) (hn : fn.n = N.length)
    (hpos : 0 < N.length)
    (hbody : ∀ (cdv : Value) (A : Around) (outer : List PySem.Env) (s : Shared) (H : Hp) (E : XK), Room j (A.deeper (envOfC qual scope s.heap.objs.size f cdv)) →
      CSs cm (cxOf (L2.CX P w) P w K mg base N qual scope f cdv A outer s H E) (fun cls d _ H' => E cls d H') (fn.body (runFn T k)) body) :
    FnOk P w K mg base (L2.CX P w) (j + 1) f fd ps (spI ⟨P, w, K, cm⟩ cl (runFn T (k + 1) id)) := by
  refine F.ok S (fun vs H Q E h => ?_) (fun cdv A outer s H vs Q E hr h => ?_)
  · obtain ⟨x, dx, C, H0, us, qs, st, G, rfl, _, _, _, _, _, _, r, h⟩ := h
    rw [List.length_cons, r.len, runFn_args hT h.notBad, hps]
  · obtain ⟨x, dx, C, H0, us, qs, st, G, rfl, rfl, hx, hdx, hne, hC, S0, r, h⟩ := h
    have hl : qs.length = fn.ps := runFn_args hT h.notBad
    have e1 : startE fn qs = SV.ins cl [] [] :: (qs.map SV.val ++ List.replicate (fn.n - (fn.ps + 1)) SV.un) := by unfold startE; rw [hini]
    have e2 : L2.start N (.ref x :: us) = some (.ref x) :: (us.map some ++ List.replicate (fn.n - (fn.ps + 1)) (none : Option V)) := by
      unfold L2.start
      rw [List.length_cons, r.len, hl, hn]
      rfl
    obtain ⟨S1, s1⟩ := S0.fresh (o := .own x) hdx
    have hx1 : upd H0 dx (.own x) x = none := by rw [upd_ne (Ne.symm hne)]; exact hx
    obtain ⟨S2, s2⟩ := S1.fresh (o := .ins C dx []) hx1
    have R0 : Rel ⟨P, w, K, cm⟩ ⟨G, H0, some x⟩ (L2.start N (.ref x :: us)) (startE fn qs) (upd (upd H0 dx (.own x)) x (.ins C dx [])) st G := by
      refine ⟨S2, s1.trans s2, ?_, fun i sv y h1 h2 => ?_, fun i j sv sw a h1 h2 h3 h4 h5 h6 => ?_⟩
      · rw [e1, e2]
        simp [r.len]
      · rw [e1] at h1
        rw [e2] at h2
        cases i with
        | zero =>
          cases h1
          cases h2
          exact ⟨x, C, dx, [], rfl, rfl, upd_same, hC, rfl, .nil, S0.notFz hx, S0.notIo hx, hx⟩
        | succ i => exact (slot_start _ _ i sv y r h1 h2).1
      · rw [e1] at h1 h2
        rw [e2] at h5 h6
        have first : ∀ (i : Nat) (sv : SV) (a : Addr), (SV.ins cl [] [] :: (qs.map SV.val ++ List.replicate (fn.n - (fn.ps + 1)) SV.un))[i]? = some sv → sv.isOwn = true → (some (.ref x) :: (us.map some ++ List.replicate (fn.n - (fn.ps + 1)) (none : Option V)))[i]? = some (some (.ref a)) → i = 0 := fun i sv a q1 q2 q3 => by
          cases i with
          | zero => rfl
          | succ i =>
            have z := (slot_start ⟨P, w, K, cm⟩ (B := ⟨G, H0, some x⟩) (H := H0) _ i sv _ r q1 q3).2
            rw [q2] at z
            cases z
        rw [first i sv a h1 h3 h5, first j sw a h2 h4 h6]
    refine ⟨_, hbody cdv A outer s _ E hr, ⟨⟨G, H0, some x⟩, startE fn qs, st, G, R0, ?_⟩⟩
    unfold runFn at h
    rw [hT] at h
    simp only [hl, if_true, hini] at h
    generalize hr : fn.body (runFn T k) (startE fn qs) st = rr at h
    cases rr with
    | next ρ st1 =>
      intro σ' H' G' ex R'
      have h : Out _ (rpI _ cl x) G H0 Q E (match (ρ.head? : Option SV) with | some (.ins c ns vs) => BR.R.ok (.ins c ns vs) st1 | _ => .bad) := h
      cases ρ with
      | nil => exact h.elim
      | cons sv ρ =>
        cases sv with
        | ins c' ns vs =>
          obtain ⟨a, C', dx', fvs, hσ, hself, ha, hC', hn', rv, n1, n2, n3⟩ := R'.insAt (i := 0) rfl
          cases hself
          exact h H' G' .non R'.base R'.toSRel ⟨rfl, C', dx', fvs, ha, hC', hn', rv, n1, n2, n3⟩
        | _ => exact h.elim
    | ret sv st1 => exact h.elim
    | ex cl ns vs ρ st1 => exact fun σ' H' G' cls d ex R' er => h H' G' cls d R'.base R'.toSRel er
    | brk _ _ => exact h.elim
    | cnt _ _ => exact h.elim
    | bad => exact h.elim
end
end BR
set_option Elab.async false
set_option linter.all false
set_option maxRecDepth 100000
/-! BrJ: lists of the store; three at once. -/
namespace BR
open PySem PySem.Spec PyProof.Rows L2
section
variable {c : Cn} {B : Bs} {σ : L2.St} {ρ : Env} {H H1 : Hp} {st st1 : Store} {G G1 : Gh}
theorem lstAt_at {p : PV} {v : V} {xs : List PV} (S : SRel c H st G) (r : RepV c G v p) (h : lstAt p st = some xs) : ∃ a i vs, v = .ref a ∧ p = .ref i ∧ G.io[i]? = some a ∧ H a = some (.lst vs) ∧ RepVs c G vs xs := by
  cases r with
  | @ref a i h1 =>
    have h : (match st[i]? with | some (SO.lst xs) => some xs | _ => none) = some xs := h
    cases e : st[i]? with
    | none => rw [e] at h; cases h
    | some o =>
      rw [e] at h
      cases o with
      | lst ys =>
        cases h
        obtain ⟨vs, q1, q2⟩ := S.obj i _ _ h1 e
        exact ⟨a, i, vs, rfl, rfl, h1, q1, q2⟩
      | ins _ _ _ => cases h
  | _ => cases h
theorem putL_at {p : PV} {v : V} {ys : List PV} {vs ws : List V} {a : Addr} {st' : Store} (S : SRel c H st G) (r : RepV c G v p) (hv : v = .ref a) (ha : H a = some (.lst vs)) (ry : RepVs c G ws ys) (h : putL st p ys = some st') : SRel c (upd H a (.lst ws)) st' G ∧ Stp G H G (upd H a (.lst ws)) := by
  cases r with
  | @ref b i h1 =>
    cases hv
    have h : some (st.set i (.lst ys)) = some st' := h
    cases h
    exact S.setObj h1 ⟨ws, upd_same, ry⟩
  | _ => cases h
def Rd2S (c : Cn) (r : R2) (f : PV → PV → Store → Option PV) : Prop := ∀ (G : Gh) (H : Hp) (st : Store) (v w : V) (p q z : PV) (Q : VK), SRel c H st G → RepV c G v p → RepV c G w q → f p q st = some z →
  (∀ H' G' x, Stp G H G' H' → SRel c H' st G' → RepV c G' x z → Q x H') → r v w H Q
def Rd1S (c : Cn) (r : List V → Hp → VK → Prop) (f : PV → Store → Option PV) : Prop := ∀ (G : Gh) (H : Hp) (st : Store) (v : V) (p z : PV) (Q : VK), SRel c H st G → RepV c G v p → f p st = some z →
  (∀ H' G' x, Stp G H G' H' → SRel c H' st G' → RepV c G' x z → Q x H') → r [v] H Q
theorem rd_ixS : Rd2S c (rIx c.K) pIdxS := by
  intro G H st v w p q z Q S rv rw' h k
  cases p with
  | ref i =>
    have h : (lstAt (.ref i) st).bind (fun xs => pIdx (.lst xs) q) = some z := h
    cases e : lstAt (.ref i) st with
    | none => rw [e] at h; cases h
    | some xs =>
      rw [e] at h
      have h : pIdx (.lst xs) q = some z := h
      obtain ⟨a, _, vs, rfl, _, _, ha, ra⟩ := lstAt_at S rv e
      cases rw' with
      | @int i =>
        obtain ⟨v, h1, h2⟩ := ra.atI (show L2.atI xs i = some z from h)
        exact .inl ⟨a, vs, i, v, rfl, rfl, SqL.of ha, h1, rd_now S h2 k⟩
      | _ => cases h
  | _ => exact rd_ix G H st v w _ q z Q S rv rw' h k
theorem rd_lenS : Rd1S c (rLenA c.K) nLenS := by
  intro G H st v p z Q S rv h k
  cases p with
  | ref i =>
    have h : (lstAt (.ref i) st).map (fun xs => PV.int xs.length) = some z := h
    cases e : lstAt (.ref i) st with
    | none => rw [e] at h; cases h
    | some xs =>
      rw [e] at h
      have h : some (PV.int xs.length) = some z := h
      cases h
      obtain ⟨a, _, vs, rfl, _, _, ha, ra⟩ := lstAt_at S rv e
      exact ⟨_, xs.length, rfl, .inl ⟨vs, SqL.of ha, ra.len.symm⟩, rd_now S .int k⟩
  | _ => exact rd_len G H st [v] [_] z Q S (.cons rv .nil) h k
end
section
variable {cm : Nat → Option Addr} {X : Cx} {W : WX} {pos p : Pos} {m n mo : EM} {f : FM} {a b e o : Expr} {x : Str}
/-- a fresh list becomes an object of the store -/
theorem ce_newL (h : CF cm X W f e) : CE cm X W (eNewL f) e := PE.weak h fun σ H Q ⟨B, ρ, st, G, R, h⟩ => by
  refine ⟨B, ρ, st, G, R, ?_⟩
  unfold eNewL at h
  cases hr : f ρ st with
  | bad => rw [hr] at h; exact h
  | ex cl ns vs st1 => rw [hr] at h; exact h
  | ok sv st1 =>
    rw [hr] at h
    intro H1 G1 x s1 S1 rx
    cases sv with
    | un => exact rx.elim
    | ins _ _ _ => exact rx.elim
    | val p => exact h.elim
    | own ps =>
      obtain ⟨a, vs, e, ha, r, n1, n2, n3⟩ := rx
      subst e
      obtain ⟨S2, s2, hi⟩ := storeOld (so := .lst ps) s1 S1 ⟨vs, ha, r⟩ n1 n2 n3
      exact h H1 _ (.ref a) s2 S2 (.ref hi)
theorem ce_ixS (ha : CE cm X W m a) (hb : CE cm X W n b) (hs : PlainIx b := by exact fun _ _ => rfl) : CE cm X W (eOp2S pIdxS m n) (.Subscript a b pos) := PE.weak (pe_ix ix_seq ha hb hs) fun σ H Q ⟨B, ρ, st, G, R, h⟩ =>
  ⟨B, ρ, st, G, R, Out.bindR early_E R h fun p st1 H1 G1 x s1 R1 rx h1 => ⟨B, ρ, st1, G1, R1, Out.bindR early_E R1 h1 fun q st2 H2 G2 y s2 R2 ry h2 => by
    obtain ⟨z, e, h3⟩ := out_ofOpt h2
    exact rd_ixS (c := cnOf X cm) G2 H2 st2 x y p q z Q R2.toSRel (rx.up s2.toGExt) ry e h3⟩⟩
theorem ce_lenS {p : Pos} (hm : X.mg "len" = none) (he : CE cm X W m e) (hg : Gl X "len" := by rfl) (hs : starEach [e] X.env = (false, eval e X.env) :: starEach [] X.env := by rfl) : CE cm X W (eOp1S nLenS m) (.Call (.Name "len" p) [e] [] pos) :=
  PE.weak (pe_callB call_len hg hm PySem.boot_len (pa_cons he pa_nil hs) (by decide) (by decide) hs) fun σ H Q ⟨B, ρ, st, G, R, h⟩ =>
  ⟨B, ρ, st, G, R, Out.bindR early_E R h fun p st1 H1 G1 x s1 R1 rx h1 => by
    obtain ⟨z, e, h3⟩ := out_ofOpt h1
    exact rd_lenS (c := cnOf X cm) G1 H1 st1 x p z Q R1.toSRel rx e h3⟩
theorem ce_cutS {lo hi : Option Expr} {l h : OM} {p2 : Pos} (he : CE cm X W m e) (hl : CO cm X W l lo) (hh : CO cm X W h hi) : CE cm X W (eCutS m l h) (.Subscript e (.Slice lo hi none p2) pos) :=
  PE.weak (pe_slice sl_all he hl hh) fun σ H Q ⟨B, ρ, st, G, R, k⟩ =>
  ⟨B, ρ, st, G, R, Out.bindR early_E R k fun p st1 H1 G1 x s1 R1 rx k1 =>
    ⟨B, ρ, st1, G1, R1, Out.bindR early_E R1 k1 fun a st2 H2 G2 y s2 R2 ry k2 =>
      ⟨B, ρ, st2, G2, R2, Out.bindR early_E R2 k2 fun b st3 H3 G3 z s3 R3 rz k3 => by
        have ey : y = a := ry
        have ez : z = b := rz
        subst ey ez
        obtain ⟨q, eq, k4⟩ := out_ofOpt k3
        have rx3 := rx.up (s2.trans s3).toGExt
        cases rx3 with
        | @tup t vs ps ha ra =>
          have eq : some (PV.tup (cutG ps y z)) = some q := eq
          cases eq
          refine .inl ⟨t, vs, rfl, R3.sqT ha, fun hw => ?_, fun _ n o hn hd => rd_new R3.toSRel hn (new_tup R3.toSRel hn hd (ra.cut y z)) k4⟩
          rw [ra.len] at hw
          rw [cutG_whole hw] at k4
          exact rd_now R3.toSRel (.tup ha ra) k4
        | @lst t vs ps ha ra =>
          have eq : some (PV.lst (cutG ps y z)) = some q := eq
          cases eq
          exact .inr (.inl ⟨t, vs, rfl, SqL.of (R3.lst ha), fun n hn => rd_new R3.toSRel hn (new_lst R3.toSRel hn (ra.cut y z)) k4⟩)
        | @str s =>
          obtain ⟨hl, rfl⟩ := some_ite eq
          refine .inr (.inr ⟨_, rfl, by rw [str_len]; exact lim_line hl, ?_⟩)
          have e2 : cutS ⟨s.toArray⟩ y z = ⟨(cutG s y z).toArray⟩ := by
            unfold cutS cutG
            rw [str_len]
          rw [e2]
          exact rd_now R3.toSRel .str k4
        | @ref t i hi =>
          have eq : (lstAt (.ref i) st3).map (fun xs => PV.lst (cutG xs y z)) = some q := eq
          cases e : lstAt (.ref i) st3 with
          | none => rw [e] at eq; cases eq
          | some xs =>
            rw [e] at eq
            have eq : some (PV.lst (cutG xs y z)) = some q := eq
            cases eq
            obtain ⟨a, _, vs, e1, _, _, ha, ra⟩ := lstAt_at R3.toSRel (.ref hi) e
            exact .inr (.inl ⟨a, vs, e1, SqL.of ha, fun n hn => rd_new R3.toSRel hn (new_lst R3.toSRel hn (ra.cut y z)) k4⟩)
        | _ => cases eq⟩⟩⟩
/-- list(..) -/
theorem cf_list {p : Pos} (hm : X.mg "list" = none) (he : CE cm X W m e) (hg : Gl X "list" := by rfl) (hb : bootBuiltins "list" = some (.type "list") := by decide +kernel) (hs : starEach [e] X.env = (false, eval e X.env) :: starEach [] X.env := by rfl) : CF cm X W (fList m) (.Call (.Name "list" p) [e] [] pos) :=
  PE.weak (pe_callTy call_list_of hg hm hb (pa_cons he pa_nil hs) (by decide) (by decide) hs) fun σ H Q ⟨B, ρ, st, G, R, h⟩ =>
  ⟨B, ρ, st, G, R, Out.bindR early_F R h fun p st1 H1 G1 x s1 R1 rx h1 => by
    have fin : ∀ {a : Addr} {vs : List V} {xs : List PV}, RepVs (cnOf X cm) G1 vs xs → listOf p st1 = some xs → ∀ l, H1 l = none → Q (.ref l) (upd H1 l (.lst vs)) := fun {a vs xs} ra el l hl => by
      rw [el] at h1
      obtain ⟨S2, s2⟩ := R1.toSRel.fresh (o := .lst vs) hl
      exact h1 _ _ _ s2 S2 ⟨l, vs, rfl, upd_same, ra, R1.toSRel.notFz hl, R1.toSRel.notIo hl, hl⟩
    cases rx with
    | @tup t vs ps ha ra => exact ⟨t, vs, rfl, .inr (R1.sqT ha), fin (a := t) ra rfl⟩
    | @lst t vs ps ha ra => exact ⟨t, vs, rfl, .inl (SqL.of (R1.lst ha)), fin (a := t) ra rfl⟩
    | @ref t i hi =>
      cases e : lstAt (.ref i) st1 with
      | none =>
        have e' : listOf (.ref i) st1 = none := e
        rw [e'] at h1
        exact h1.elim
      | some xs =>
        obtain ⟨a, _, vs, e1, _, _, ha, ra⟩ := lstAt_at R1.toSRel (.ref hi) e
        exact ⟨a, vs, by rw [e1], .inl (SqL.of ha), fin (a := a) ra e⟩
    | _ => exact h1.elim⟩
/-- o[k] = e -/
theorem cs_setIxL {k : EM} {ke : Expr} {p2 : Pos} (he : CE cm X W m e) (ho : CE cm X W mo o) (hk : CE cm X W k ke)
    (ha : ∀ v, assign (.Subscript o ke p2) X.env v = (do
      let ov ← holding [v] (eval o X.env)
      let iv ← holding [v, ov] (eval ke X.env)
      standAt p2
      holding [v, ov, iv] (setItem ov iv v)
      release [v, ov, iv] []) := by intro _; rfl)
    (hs : swapsWithSole [.Subscript o ke p2] e pos.line X.env = pure false := by rfl) (hw : swappedStores [.Subscript o ke p2] e X.env = pure none := by rfl) : CS cm X W (sSetIxL mo m k) (.Assign [.Subscript o ke p2] e pos) :=
  PS.weak (ps_asg he (pg_sub ho hk set_list ha) hs hw rfl) fun D σ H ⟨B, ρ, st, G, R, h⟩ => by
    refine ⟨B, ρ, st, G, R, OutS.bind R h fun p st1 H1 G1 y s1 R1 rx h1 => ?_⟩
    refine ⟨B, ρ, st1, G1, R1, OutS.bind R1 h1 fun r st2 H2 G2 z s2 R2 rz h2 => ?_⟩
    refine ⟨B, ρ, st2, G2, R2, OutS.bind R2 h2 fun q st3 H3 G3 w s3 R3 rw' h3 => ?_⟩
    cases el : lstAt r st3 with
    | none => simp only [el] at h3; exact h3.elim
    | some xs =>
      cases rw' with
      | @int j =>
        simp only [el] at h3
        cases ek : L2.ixN xs.length j with
        | none => rw [ek] at h3; exact h3.elim
        | some i =>
          rw [ek] at h3
          have rz3 := rz.up s3.toGExt
          obtain ⟨a, _, vs, rfl, _, _, ha, ra⟩ := lstAt_at R3.toSRel rz3 el
          have h3 : OutS _ _ _ _ _ (match putL st3 r (xs.set i p) with | some st4 => SR.next ρ st4 | none => .bad) := h3
          cases ep : putL st3 r (xs.set i p) with
          | none => rw [ep] at h3; exact h3.elim
          | some st4 =>
            rw [ep] at h3
            obtain ⟨S4, s4⟩ := putL_at R3.toSRel rz3 rfl ha (ra.setN (rx.up (s2.trans s3).toGExt) i) ep
            exact ⟨a, vs, j, i, rfl, rfl, ha, by rw [ra.len]; exact ek, h3 σ _ G3 (.refl G3) (R3.step s4 S4)⟩
      | _ => simp only [el] at h3; exact h3.elim
/-- o.append(e) -/
theorem cs_appL {apos cpos : Pos} (ho : CE cm X W mo o) (he : CE cm X W m e) (hs0 : starEach [e] X.env = (false, eval e X.env) :: starEach [] X.env := by rfl)
    (hbase : attributeBase o "append" X.env (eval o X.env) = eval o X.env := by rfl)
    (hfew : ((backTo cpos (starEach [e] X.env)).all (fun x => !x.1) && (backToKw cpos (keywordEach [] X.env)).all (fun x => x.1.isSome) && decide ([e].length + ([] : List Keyword).length + (if ([] : List Keyword).isEmpty then 0 else 1) < 30)) = true := by rfl)
    (hline : (apos.endLine == cpos.line) = true := by rfl) : CS cm X W (sAppL mo m) (.Expr (.Call (.Attribute o "append" apos) [e] [] cpos) pos) :=
  PS.weak (ps_expr (pe_bm PySem.F.plainAttrs_list PySem.F.slot_list_append PySem.F.type_list_append mt_append ho (pa_cons he pa_nil hs0) hbase hfew hline hs0 rfl) swaps_call) fun D σ H ⟨B, ρ, st, G, R, h⟩ => by
    refine ⟨B, ρ, st, G, R, OutS.bind R h fun r st1 H1 G1 z s1 R1 rz h1 => ?_⟩
    by_cases hso : (lstAt r st1).isSome = true
    · rw [if_pos hso] at h1
      obtain ⟨xs0, e0⟩ := Option.isSome_iff_exists.mp hso
      obtain ⟨a, i, vs0, rfl, er, hio, ha0, _⟩ := lstAt_at R1.toSRel rz e0
      refine ⟨.inl ⟨rfl, _, SqL.of ha0⟩, B, ρ, st1, G1, R1, OutS.bind R1 h1 fun p st2 H2 G2 y s2 R2 rx h2 => ?_⟩
      cases el : lstAt r st2 with
      | none => rw [el] at h2; exact h2.elim
      | some xs =>
        rw [el] at h2
        have h2 : OutS _ _ _ _ _ (if xs.length < lim then (match putL st2 r (xs ++ [p]) with | some st3 => SR.next ρ st3 | none => .bad) else .bad) := h2
        by_cases hl : xs.length < lim
        · rw [if_pos hl] at h2
          obtain ⟨a', _, vs, e1, _, _, ha, ra⟩ := lstAt_at R2.toSRel (rz.up s2.toGExt) el
          cases e1
          cases ep : putL st2 r (xs ++ [p]) with
          | none => rw [ep] at h2; exact h2.elim
          | some st3 =>
            rw [ep] at h2
            obtain ⟨S3, s3⟩ := putL_at R2.toSRel (rz.up s2.toGExt) rfl ha (ra.app (.cons rx .nil)) ep
            exact ⟨a, vs, y, rfl, rfl, ha, by rw [ra.len]; exact Nat.lt_of_lt_of_le hl (by decide), h2 σ _ G2 (.refl G2) (R2.step s3 S3)⟩
        · rw [if_neg hl] at h2; exact h2.elim
    · rw [if_neg hso] at h1; exact h1.elim
/-- o.pop() -/
theorem cs_popL {apos cpos : Pos} (ho : CE cm X W mo o) (hbase : attributeBase o "pop" X.env (eval o X.env) = eval o X.env := by rfl)
    (hline : (apos.endLine == cpos.line) = true := by rfl) : CS cm X W (sPopL mo) (.Expr (.Call (.Attribute o "pop" apos) [] [] cpos) pos) :=
  PS.weak (ps_expr (pe_bm0 PySem.F.plainAttrs_list PySem.F.slot_list_pop PySem.F.type_list_pop mt_pop ho hbase hline) swaps_call) fun D σ H ⟨B, ρ, st, G, R, h⟩ => by
    refine ⟨B, ρ, st, G, R, OutS.bind R h fun r st1 H1 G1 z s1 R1 rz h1 => ?_⟩
    cases el : lstAt r st1 with
    | none => rw [el] at h1; exact h1.elim
    | some xs =>
      rw [el] at h1
      have h1 : OutS _ _ _ _ _ (if xs.length = 0 then SR.bad else (match putL st1 r xs.dropLast with | some st2 => .next ρ st2 | none => .bad)) := h1
      by_cases hl : xs.length = 0
      · rw [if_pos hl] at h1; exact h1.elim
      · rw [if_neg hl] at h1
        obtain ⟨a, _, vs, rfl, _, _, ha, ra⟩ := lstAt_at R1.toSRel rz el
        cases ep : putL st1 r xs.dropLast with
        | none => rw [ep] at h1; exact h1.elim
        | some st2 =>
          rw [ep] at h1
          have hv : vs.length ≠ 0 := by rw [ra.len]; exact hl
          have hx : vs[vs.length - 1]? = some vs[vs.length - 1] := List.getElem?_eq_getElem (by omega)
          have rd : RepVs (cnOf X cm) G1 vs.dropLast xs.dropLast := by
            rw [List.dropLast_eq_take, List.dropLast_eq_take, ra.len]
            exact ra.take _
          obtain ⟨S2, s2⟩ := putL_at R1.toSRel rz rfl ha rd ep
          exact ⟨.inl ⟨rfl, _, SqL.of ha⟩, a, vs, _, rfl, rfl, ha, hx, h1 σ _ G1 (.refl G1) (R1.step s2 S2)⟩
/-! ### a, b, c = x, y, z -/
variable {f1 f2 f3 : FM} {d : Expr} {y z : Str}
theorem par3_core {i j l : Nat} {f1 f2 f3 : FM} {D : Ends} {σ : L2.St} {H : Hp} {Q : List V → Hp → Prop} {B : Bs} {ρ : Env} {st : Store} {G : Gh} (R : Rel (cnOf X cm) B σ ρ H st G) (h : OutS (cnOf X cm) W B D G (sPar3 i j l f1 f2 f3 ρ st))
    (k : ∀ u v w H3 G3 st3 ρ3, Stp G H G3 H3 → Rel (cnOf X cm) B (((σ.set i (some u)).set j (some v)).set l (some w)) ρ3 H3 st3 G3 → OutS (cnOf X cm) W B D G3 (.next ρ3 st3) → Q [u, v, w] H3) :
    Out (cnOf X cm) (rpF (cnOf X cm)) G H (fun u H1 => tF (cnOf X cm) W f2 σ H1 fun v H2 => tF (cnOf X cm) W f3 σ H2 fun w H3 => Q [u, v, w] H3) (fun cls d H' => W cls d σ H') (f1 ρ st) := by
  unfold sPar3 at h
  cases h1 : f1 ρ st with
  | bad => rw [h1] at h; exact h
  | ex cl ns vs st1 => rw [h1] at h; exact fun H1 G1 cls dd s1 S er => h σ H1 G1 cls dd s1.toGExt (R.step s1 S) er
  | ok v st1 =>
    rw [h1] at h
    intro H1 G1 xv s1 S1 rx
    have R1 := R.step s1 S1
    refine ⟨B, ρ, st1, G1, R1, ?_⟩
    have h : OutS _ _ _ _ _ ((f2 ρ st1).bindS ρ fun w st2 => (f3 ρ st2).bindS ρ fun z st3 => .next (((ρ.set i v).set j w).set l z) st3) := h
    cases h2 : f2 ρ st1 with
    | bad => rw [h2] at h; exact h
    | ex cl ns vs st2 => rw [h2] at h; exact fun H2 G2 cls dd s2 S er => h σ H2 G2 cls dd (s1.trans s2).toGExt (R1.step s2 S) er
    | ok w st2 =>
      rw [h2] at h
      intro H2 G2 yv s2 S2 ry
      have R2 := R1.step s2 S2
      refine ⟨B, ρ, st2, G2, R2, ?_⟩
      have h : OutS _ _ _ _ _ ((f3 ρ st2).bindS ρ fun z st3 => .next (((ρ.set i v).set j w).set l z) st3) := h
      cases h3 : f3 ρ st2 with
      | bad => rw [h3] at h; exact h
      | ex cl ns vs st3 => rw [h3] at h; exact fun H3 G3 cls dd s3 S er => h σ H3 G3 cls dd ((s1.trans s2).trans s3).toGExt (R2.step s3 S) er
      | ok z st3 =>
        rw [h3] at h
        intro H3 G3 zv s3 S3 rz
        have R3 := ((R.setF (i := i) s1 S1 rx).setF (i := j) s2 S2 ry).setF (i := l) s3 S3 rz
        exact k xv yv zv H3 G3 st3 _ ((s1.trans s2).trans s3) R3 (OutS.later ((s1.trans s2).trans s3).toGExt h)
theorem cs_par3 (i j l : Nat) {px py pz pt : Pos} {kt k2 : Nat} {pt2 : Pos} (hc : X.calm = true) (hN : X.N.Nodup) (ha : CF cm X W f1 a) (hb : CF cm X W f2 b) (hd : CF cm X W f3 d) (hi : X.N[i]? = some x := by rfl) (hj : X.N[j]? = some y := by rfl) (hl : X.N[l]? = some z := by rfl) (hij : i ≠ j := by decide) (hil : i ≠ l := by decide) (hjl : j ≠ l := by decide)
    (hx : X.env.scope.names.lookup x = some .local := by rfl) (hy : X.env.scope.names.lookup y = some .local := by rfl) (hz : X.env.scope.names.lookup z = some .local := by rfl)
    (hw : swappedStores [.Tuple [.Name x px, .Name y py, .Name z pz] kt pt] (.Tuple [a, b, d] k2 pt2) X.env = pure (some [x, y, z]) := by rfl)
    (hs : swapsWithSole [.Tuple [.Name x px, .Name y py, .Name z pz] kt pt] (.Tuple [a, b, d] k2 pt2) pos.line X.env = pure false := by rfl) (hs0 : starEach [a, b, d] X.env = (false, eval a X.env) :: starEach [b, d] X.env := by rfl) (hs1 : starEach [b, d] X.env = (false, eval b X.env) :: starEach [d] X.env := by rfl) (hs2 : starEach [d] X.env = (false, eval d X.env) :: starEach [] X.env := by rfl) :
    CS cm X W (sPar3 i j l f1 f2 f3) (.Assign [.Tuple [.Name x px, .Name y py, .Name z pz] kt pt] (.Tuple [a, b, d] k2 pt2) pos) :=
  PS.weak (ps_par3 hc hN hi hj hl hij hil hjl hx hy hz (pa_cons ha (pa_cons hb (pa_cons hd pa_nil hs2) hs1) hs0) hw hs) fun D σ H ⟨B, ρ, st, G, R, h⟩ =>
    ⟨B, ρ, st, G, R, par3_core (Q := fun us H3 => ∃ u v w, us = [u, v, w] ∧ D.nx (((σ.set i (some u)).set j (some v)).set l (some w)) H3) R h fun u v w H3 G3 st3 ρ3 s3 R3 h3 => ⟨u, v, w, rfl, h3 _ H3 G3 (.refl G3) R3⟩⟩
/-- by way of the tuple -/
theorem cs_par3T (i j l : Nat) {px py pz pt : Pos} {kt k2 : Nat} {pt2 : Pos} (hc : X.calm = true) (hN : X.N.Nodup) (ha : CF cm X W f1 a) (hb : CF cm X W f2 b) (hd : CF cm X W f3 d) (hi : X.N[i]? = some x := by rfl) (hj : X.N[j]? = some y := by rfl) (hl : X.N[l]? = some z := by rfl)
    (hx : Loc X.env.scope x := by first | exact .inl rfl | exact .inr rfl) (hy : Loc X.env.scope y := by first | exact .inl rfl | exact .inr rfl) (hz : Loc X.env.scope z := by first | exact .inl rfl | exact .inr rfl)
    (fx : X.fn x = true ∨ X.env.scope.names.lookup x = some .local := by first | exact .inl rfl | exact .inr rfl | assumption) (fy : X.fn y = true ∨ X.env.scope.names.lookup y = some .local := by first | exact .inl rfl | exact .inr rfl | assumption) (fz : X.fn z = true ∨ X.env.scope.names.lookup z = some .local := by first | exact .inl rfl | exact .inr rfl | assumption)
    (hw : swappedStores [.Tuple [.Name x px, .Name y py, .Name z pz] kt pt] (.Tuple [a, b, d] k2 pt2) X.env = pure none := by rfl)
    (hs : swapsWithSole [.Tuple [.Name x px, .Name y py, .Name z pz] kt pt] (.Tuple [a, b, d] k2 pt2) pos.line X.env = pure false := by rfl) (hs0 : starEach [a, b, d] X.env = (false, eval a X.env) :: starEach [b, d] X.env := by rfl) (hs1 : starEach [b, d] X.env = (false, eval b X.env) :: starEach [d] X.env := by rfl) (hs2 : starEach [d] X.env = (false, eval d X.env) :: starEach [] X.env := by rfl) :
    CS cm X W (sPar3 i j l f1 f2 f3) (.Assign [.Tuple [.Name x px, .Name y py, .Name z pz] kt pt] (.Tuple [a, b, d] k2 pt2) pos) :=
  PS.weak (ps_asg (pe_tup (pa_cons ha (pa_cons hb (pa_cons hd pa_nil hs2) hs1) hs0)) (pg_tup (n := 3) hc (pgs_cons (pg_name hN hi hx fx) (pgs_cons (pg_name hN hj hy fy) (pgs_cons (pg_name hN hl hz fz) pgs_nil)))) hs hw rfl) fun D σ H ⟨B, ρ, st, G, R, h⟩ =>
    ⟨B, ρ, st, G, R, par3_core (Q := fun vs H1 => vs.length ≤ sizeLine ∧ ∀ (p : Addr), H1 p = none → L2.gTup X.K 3 (gCons (L2.gName i) (gCons (L2.gName j) (gCons (L2.gName l) gNil))) (V.ref p) σ (upd H1 p (HO.tup vs)) D.nx) R h fun u v w H3 G3 st3 ρ3 s3 R3 h3 => by
      refine ⟨(by show 3 ≤ _; decide), fun p hp => ?_⟩
      obtain ⟨S4, s4⟩ := R3.toSRel.fresh (o := .tup [u, v, w]) hp
      exact ⟨p, [u, v, w], rfl, SqT.of upd_same, rfl, u, [v, w], rfl, v, [w], rfl, w, [], rfl, rfl, h3 _ _ G3 s4.toGExt (R3.step s4 S4)⟩⟩
end
end BR
set_option Elab.async false
set_option linter.all false
set_option maxRecDepth 100000
/-! BrK: match, raise, try. -/
namespace BR
open PySem PySem.Spec PyProof.Rows L2
/-! ### match -/
/-- a pattern that is one of these texts -/
structure PPat (X : Cx) (p : Pattern) (ps : List (List Nat)) : Prop where
  run : ∀ (pins : List (Addr × Obj)) (s : Shared) (σ : L2.St) (H : Hp) (z : List Nat) (u : Value) (Q : Option (List (Str × Value)) → Shared → Prop), Inv X pins σ H s → RelV (.str ⟨z.toArray⟩) u →
    (∀ s', Inv X pins σ H s' → Q (if ps.any (fun p => decide (p = z)) then some [] else none) s') → wpAny (model X.prog X.w) X.A (matchPattern p X.env u) Q X.xe s
structure PPats (X : Cx) (p : List Pattern) (ps : List (List Nat)) : Prop where
  run : ∀ (pins : List (Addr × Obj)) (s : Shared) (σ : L2.St) (H : Hp) (z : List Nat) (u : Value) (Q : Option (List (Str × Value)) → Shared → Prop), Inv X pins σ H s → RelV (.str ⟨z.toArray⟩) u →
    (∀ s', Inv X pins σ H s' → Q (if ps.any (fun p => decide (p = z)) then some [] else none) s') → wpAny (model X.prog X.w) X.A (matchFirst p X.env u) Q X.xe s
section
variable {X : Cx} {pos p2 : Pos}
theorem pat_str {x : Str} {z0 : List Nat} {j} (hx : x = ⟨z0.toArray⟩ := by decide +kernel) : PPat X (.MatchValue (.Constant (.str x) j p2) pos) [z0] := by
  refine ⟨fun pins s σ H z u Q I r h => ?_⟩
  subst hx
  refine wpAny_matchPattern_Value (thn (pe_str.run pins s σ H (fun v H1 => v = .str ⟨z0.toArray⟩ ∧ H1 = H) I ⟨rfl, rfl⟩) fun w s1 ⟨v, H1, I1, rv, ev, eH⟩ => ?_)
  subst ev eH
  refine thn (op_eq pins s1 σ H1 _ _ u w (fun v H2 => v = .bl (decide (z0 = z)) ∧ H2 = H1) I1 r rv ⟨rfl, ?_, rfl⟩) fun w2 s2 ⟨v2, H2, I2, rv2, ev2, eH2⟩ => ?_
  · congr 1
    rw [Bool.eq_iff_iff]
    simp
    exact eq_comm
  · subst ev2 eH2
    cases rv2
    refine wpAny_truthy_bool ?_
    have q := h s2 I2
    simp only [List.any_cons, List.any_nil, Bool.or_false] at q
    by_cases e : z0 = z
    · simp only [e, decide_true, if_true] at q ⊢
      exact q
    · simp only [e, decide_false] at q ⊢
      exact q
theorem pats_nil : PPats X [] [] := ⟨fun pins s σ H z u Q I r h => wpAny_matchFirst_nil (h s I)⟩
theorem pats_cons {p : Pattern} {ps : List Pattern} {a b : List (List Nat)} (h1 : PPat X p a) (h2 : PPats X ps b) : PPats X (p :: ps) (a ++ b) := by
  refine ⟨fun pins s σ H z u Q I r h => ?_⟩
  refine wpAny_matchFirst_cons (h1.run pins s σ H z u _ I r fun s1 I1 => ?_)
  cases e : a.any (fun p => decide (p = z)) with
  | true =>
    simp only [if_true]
    have q := h s1 I1
    rw [List.any_append, e, Bool.true_or, if_pos rfl] at q
    exact q
  | false =>
    simp only [Bool.false_eq_true, if_false]
    refine h2.run pins s1 σ H z u Q I1 r fun s2 I2 => ?_
    have q := h s2 I2
    rw [List.any_append, e, Bool.false_or] at q
    exact q
theorem pat_or {ps : List Pattern} {a : List (List Nat)} (h1 : PPats X ps a) (hn : namesOfAll (ps.take 1) = [] := by rfl) : PPat X (.MatchOr ps pos) a := by
  refine ⟨fun pins s σ H z u Q I r h => ?_⟩
  refine wpAny_matchPattern_Or (h1.run pins s σ H z u _ I r fun s1 I1 => ?_)
  have q := h s1 I1
  cases e : a.any (fun p => decide (p = z)) with
  | true =>
    rw [e] at q
    simp only [if_true] at q ⊢
    rw [hn]
    exact q
  | false =>
    rw [e] at q
    simp only [Bool.false_eq_true, if_false] at q ⊢
    exact q
/-- the cases -/
structure PCases (cm : Nat → Option Addr) (X : Cx) (W : WX) (cs : List MatchCase) (ms : List (List (List Nat) × SM)) : Prop where
  run : ∀ (first : Bool) (pins : List (Addr × Obj)) (s : Shared) (σ : L2.St) (H : Hp) (z : List Nat) (u : Value) (D : Ends), Inv X pins σ H s → RelV (.str ⟨z.toArray⟩) u → tS (cnOf X cm) W (matchGo ms z) D σ H →
    wpAny (model X.prog X.w) X.A (matchCases cs X.env u first) (SP X pins D) X.xe s
variable {cm : Nat → Option Addr} {W : WX} {m : EM} {e : Expr}
theorem cases_nil : PCases cm X W [] [] := ⟨fun first pins s σ H z u D I r ⟨B, ρ, st, G, R, h⟩ => wpAny_matchCases_nil ⟨σ, H, I, h σ H G (.refl G) R⟩⟩
theorem cases_cons {p : Pattern} {body : List Stmt} {cs : List MatchCase} {ps : List (List Nat)} {n : SM} {ms : List (List (List Nat) × SM)} (hp : PPat X p ps) (hb : CSs cm X W n body) (hr : PCases cm X W cs ms) : PCases cm X W (⟨p, none, body⟩ :: cs) ((ps, n) :: ms) := by
  refine ⟨fun first pins s σ H z u D I r h => ?_⟩
  refine wpAny_matchCases_cons (hp.run pins s σ H z u _ I r fun s1 I1 => ?_)
  cases e : ps.any (fun p => decide (p = z)) with
  | true =>
    simp only [if_true]
    refine wpAny_assignInOrder_none ?_
    obtain ⟨B, ρ, st, G, R, h⟩ := h
    refine hb.run pins s1 σ H D I1 ⟨B, ρ, st, G, R, ?_⟩
    have h : OutS _ _ _ _ _ (if ps.any (fun p => decide (p = z)) then n ρ st else matchGo ms z ρ st) := h
    rw [e, if_pos rfl] at h
    exact h
  | false =>
    simp only [Bool.false_eq_true, if_false]
    refine hr.run false pins s1 σ H z u D I1 r ?_
    obtain ⟨B, ρ, st, G, R, h⟩ := h
    refine ⟨B, ρ, st, G, R, ?_⟩
    have h : OutS _ _ _ _ _ (if ps.any (fun p => decide (p = z)) then n ρ st else matchGo ms z ρ st) := h
    rw [e, if_neg Bool.false_ne_true] at h
    exact h
theorem cs_match {cs : List MatchCase} {ms : List (List (List Nat) × SM)} (he : CE cm X W m e) (hc : PCases cm X W cs ms) : CS cm X W (sMatch m ms) (.Match e cs pos) := by
  refine ⟨fun pins s σ H D I ⟨B, ρ, st, G, R, h⟩ => ?_⟩
  refine wpAny_Match (thn (he.run pins s σ H (fun v H1 => ∃ z st1 G1, v = .str ⟨(z : List Nat).toArray⟩ ∧ Rel (cnOf X cm) B σ ρ H1 st1 G1 ∧ OutS (cnOf X cm) W B D G1 (matchGo ms z ρ st1)) I ⟨B, ρ, st, G, R, OutS.bind R h fun p st1 H1 G1 x s1 R1 rx h1 => ?_⟩) fun u s1 hu => ?_)
  · cases rx with
    | @str z => exact ⟨z, st1, G1, rfl, R1, h1⟩
    | _ => exact h1.elim
  · obtain ⟨v, H1, I1, rv, z, st1, G1, ev, R1, h1⟩ := hu
    subst ev
    exact hc.run true pins s1 σ H1 z u D I1 rv ⟨B, ρ, st1, G1, R1, h1⟩
end
/-! ### raise -/
section
variable {X : Cx} {CX : CXT} {k : Nat} {f C fI : Addr} {fd : FuncData} {ps : List Str} {sp : Sp} {x : Str} {p p1 p2 pos : Pos} {e : Expr} {es : List Expr} {ta : TA}
/-- B.__init__(self, ..), B an own class over ValueError without an own __init__ -/
theorem pe_beinit {CB : Addr} {bn : Str} {pl : Sem Bool} (hg : Gl X bn) (hm : X.mg bn = some (.ref CB)) (hga : PySem.W.specialIn X.K (.ref CB) "__getattribute__" = some (some (.builtin "type.__getattribute__"))) (hrd : PySem.W.readsIn X.K CB (.type "type") = true)
    (vV : PySem.W.findCls X.K (.ref CB) (.type "type") "__init__" = some (.val (.builtin "ValueError.__init__"))) (ha : PA X (e :: es) ta)
    (hc : eval (.Call (.Attribute (.Name bn p1) "__init__" p2) (e :: es) [] pos) X.env = (do
      let ov ← eval (.Name bn p1) X.env
      standAt p2.atName
      let (f, first) ← holding [ov] (getMethod ov "__init__" pl)
      callWith pos f first (backTo pos (starEach (e :: es) X.env)) (backToKw pos (keywordEach [] X.env))) := by rfl) (hdb : (bn == ("__debug__" : Str)) = false := by decide)
    (he : starEach (e :: es) X.env = (false, eval e X.env) :: starEach es X.env := by rfl) (hpl : (backTo pos (starEach es X.env)).any (·.1) = false := by rfl) :
    PE X (.Call (.Attribute (.Name bn p1) "__init__" p2) (e :: es) [] pos) (tVeI X.K ta) := by
  refine ⟨fun pins s σ H Q I h => ?_⟩
  refine PySem.W.methodCall_KW (ld_glob I hg hm ?_ hdb) hc
  obtain ⟨m, fr⟩ := I.fr
  refine PySem.W.method_of_cls fr I.ok.mod.kin hga (PySem.W.cls_value I.kIn hrd vV (by decide +kernel) ?_)
  show wpAny _ _ (callWith pos (Value.builtin "ValueError.__init__") [] (backTo pos (starEach (e :: es) X.env)) []) _ _ _
  refine PyProof.Rows.callWith_method1 (thn (ha.run pos pins _ σ H _ (I.tok _) h) fun us s1 ⟨vs, H1, I1, r1, a, C, ws, ev, hl, T, ea, q⟩ => ?_) he hpl
  subst ev
  cases r1 with
  | @cons _ u0 _ ur ra rw' =>
    obtain rfl : u0 = Value.ref a := ra
    have hlen : ur.length ≤ sizeLine := by
      rw [← Paired.length rw', sizeLine_eq]
      omega
    exact oinit_ok T I1 ea hlen fun s' J => ⟨.non, H1, J, rfl, q⟩
/-- what the base class must have -/
structure BexC (K : PySem.W.Frag) (CB : Addr) : Prop where
  ga : PySem.W.specialIn K (.ref CB) "__getattribute__" = some (some (.builtin "type.__getattribute__"))
  rd : PySem.W.readsIn K CB (.type "type") = true
  ini : PySem.W.findCls K (.ref CB) (.type "type") "__init__" = some (.val (.builtin "ValueError.__init__"))
def spX1 (K : PySem.W.Frag) (C : Addr) (f : Str) : Sp := fun vs H Q _ => ∃ a v, vs = [.ref a, v] ∧ OexC K C ∧ PySem.W.findIn K (.ref C) f = some none ∧ H a = some (exo a C none) ∧ ∀ dx, H dx = none → dx ≠ a → Q .non (upd (upd H dx (exd dx [(f, v)])) a (exo a C (some dx)))
def spX0 (K : PySem.W.Frag) (C : Addr) : Sp := fun vs H Q _ => ∃ a, vs = [.ref a] ∧ OexC K C ∧ H a = some (exo a C none) ∧ Q .non H
end
section
variable {P : Program} {w : World} {K : PySem.W.Frag} {mg : Str → Option Value} {base : Heap}
theorem ok_exc1 {x qual f y msg : Str} {params : Arguments} {scope : Scope} {fa C : Addr} {fd : FuncData} {j : Nat} {e1 : Expr} {p6 p7 p8 p9 p10 : Pos} (F : FunD K x qual params
      [.Expr e1 p6, .Assign [.Attribute (.Name "self" p7) f p8] (.Name y p9) p10] scope [] [] fa fd) (S : FnScope ["self", y] ["self", y] scope)
    (h1 : ∀ (cdv : Value) (A : Around) (outer : List PySem.Env) (s : Shared) (H : Hp) (E : XK), PE (cxOf (L2.CX P w) P w K mg base ["self", y] qual scope fa cdv A outer s H E) e1 (tVeI K (tCons (tVar 0) (tCons (tC (.str msg)) tNil))))
    (hsw : ∀ (n : Nat) (env : PySem.Env), swapsWith e1 none n env = pure false) (hy : Vis scope y) (hs : Vis scope "self") (hd : (y == ("__debug__" : Str)) = false) (hcd : (y == ("__classdict__" : Str)) = false) : FnOk P w K mg base (L2.CX P w) (j + 1) fa fd ["self", y] (spX1 K C f) := by
  refine F.ok S (fun vs H Q E h => ?_) (fun cdv A outer s H vs Q E hr h => ?_)
  · obtain ⟨a, v, rfl, _⟩ := h
    rfl
  · obtain ⟨a, v, rfl, T, hno, ha, q⟩ := h
    refine ⟨_, pss_cons (ps_expr (h1 cdv A outer s H E) (hsw _ _)) (pss_cons (ps_ost (pe_var (i := 0) rfl hs (by decide) (by decide)) (pe_var (i := 1) rfl hy hd hcd) rfl) pss_nil), ?_⟩
    exact ⟨.ref a, rfl, a, C, [_], rfl, by show 1 ≤ 1000; decide, T, ha, v, rfl, .ref a, rfl, a, C, rfl, T, hno, .inl ⟨ha, fun dx n ne => q dx n ne⟩⟩
theorem ok_exc0 {x qual msg : Str} {params : Arguments} {scope : Scope} {fa C : Addr} {fd : FuncData} {j : Nat} {e1 : Expr} {p6 : Pos} (F : FunD K x qual params
      [.Expr e1 p6] scope [] [] fa fd) (S : FnScope ["self"] ["self"] scope)
    (h1 : ∀ (cdv : Value) (A : Around) (outer : List PySem.Env) (s : Shared) (H : Hp) (E : XK), PE (cxOf (L2.CX P w) P w K mg base ["self"] qual scope fa cdv A outer s H E) e1 (tVeI K (tCons (tVar 0) (tCons (tC (.str msg)) tNil))))
    (hsw : ∀ (n : Nat) (env : PySem.Env), swapsWith e1 none n env = pure false) : FnOk P w K mg base (L2.CX P w) (j + 1) fa fd ["self"] (spX0 K C) := by
  refine F.ok S (fun vs H Q E h => ?_) (fun cdv A outer s H vs Q E hr h => ?_)
  · obtain ⟨a, rfl, _⟩ := h
    rfl
  · obtain ⟨a, rfl, T, ha, q⟩ := h
    refine ⟨_, pss_cons (ps_expr (h1 cdv A outer s H E) (hsw _ _)) pss_nil, ?_⟩
    exact ⟨.ref a, rfl, a, C, [_], rfl, by show 1 ≤ 1000; decide, T, ha, q⟩
end
/-! the end of C(): the exception is let go, it has no dict -/
section
variable {X : Cx} {CX : CXT} {k : Nat} {f C fI : Addr} {fd : FuncData} {ps : List Str} {sp : Sp} {x : Str} {p p1 p2 pos : Pos} {e : Expr} {es : List Expr} {ta : TA}
theorem mk_endN {pins : List (Addr × Obj)} {σ : L2.St} {H1 H2 : Hp} {Q : XK} {hp hp2 h2 : Heap} {g1 g2 : Array GenState} {d1 d2 : Drawn} {t1 t2 : Nat} {os1 os2 : OsState} {a C : Addr} (T : Raises X (.ref C)) (I1 : Inv X pins σ H1 ⟨hp, g1, d1, t1, os1⟩)
    (ha : hp.objs.size ≤ a) (k : ∀ b o, hp.get? b = some o → hp2.get? b = some o) (un : Un (frs X.stack) [] (upd H1 a (exo a C none)) H2 hp2 h2) (hok : HOk X.prog X.w H2 h2) (ho : os2 = os1) (hb : AllBare g2)
    (ea : H2 a = some (exo a C none)) (q : Q (.ref C) none (del H2 a)) : MkP X pins σ Q (.ref a) ⟨h2, g2, d2, t2, os2⟩ := by
  obtain ⟨t0, hoe⟩ := exo_at hok ea
  have hn : H1 a = none := I1.hok.fresh ha
  obtain ⟨G, g1', g2'⟩ := restrict h2 fun b => decide (b ≠ a)
  have gk : ∀ b, b ≠ a → G.get? b = h2.get? b := fun b hb => g1' b (decide_eq_true hb)
  have ge : G.get? a = none := g2' a (by simp)
  have nha : ∀ {b : Addr} {o : Obj}, hp.get? b = some o → b ≠ a := fun {b o} z => Nat.ne_of_lt (Nat.lt_of_lt_of_le (Heap.lt_size z) ha)
  have up : ∀ {b : Addr}, b ≠ a → H1 b = none → upd H1 a (exo a C none) b = none := fun {b} hb n => by rw [upd_ne hb]; exact n
  have U : Un (frs X.stack) [] H1 (del H2 a) hp G := {
    keep := fun b o z n hf hx => by
      rw [gk b (nha z)]
      exact un.keep b o (k b o z) (up (nha z) n) hf hx
    slot := fun b o z n hf hx => by
      rw [gk b (nha z)]
      exact un.slot b o (k b o z) (up (nha z) n) hf hx
    free := fun b o z n hx => by
      rw [del_ne (nha z)]
      exact un.free b o (k b o z) (up (nha z) n) hx
    there := fun b o z hx => by
      rw [gk b (nha z)]
      exact un.there b o (k b o z) hx
    tups := fun b xs z => by
      rw [del_ne (ne_of_none z hn)]
      exact un.tups b xs (by rw [upd_ne (ne_of_none z hn)]; exact z)
    frzs := fun b o v z => by
      rw [del_ne (ne_of_none z hn)]
      exact un.frzs b o v (by rw [upd_ne (ne_of_none z hn)]; exact z)
    tbls := fun b ps z => by
      rw [del_ne (ne_of_none z hn)]
      exact un.tbls b ps (by rw [upd_ne (ne_of_none z hn)]; exact z) }
  have hok3 : HOk X.prog X.w (del H2 a) G := fun b o z => by
    have hba : b ≠ a := fun e => by
      rw [e, del_same] at z
      cases z
    rw [del_ne hba] at z
    have noa : ∀ {c : Addr}, H2 c = some (.own b) → c ≠ a := fun {c} hc => at_ne ea hc exo_own
    exact (hok b o z).stay (fun c v hc y => by
        have hca : c ≠ a := by
          rcases hc with hc | hc
          · rw [hc]
            exact hba
          · exact noa hc
        rw [gk c hca]
        exact y)
      (fun c hc => by rw [del_ne (noa hc)]; exact hc) (fun c xs hc => by rw [del_ne (at_ne ea hc exo_tup)]; exact hc)
  have J : Inv X pins σ (del H2 a) ⟨G, g2, d2, t2, os2⟩ := I1.call' (ch := []) ho U hok3 hb (fun b z => absurd z (by simp))
  exact ⟨a, _, _, ⟨G, g2, d2, t2, os2⟩, _, .ref C, none, rfl, J, fun b o z => by
    by_cases hba : b = a
    · rw [hba, ge] at z
      cases z
    · exact (gk b hba).symm.trans z, ge, hoe, ⟨rfl, rfl⟩, rfl, rfl, del_same, rfl, hb, T, q⟩
theorem pmk_oex0 (T : OexC X.K C) (iC : PySem.W.findIn X.K (.ref C) "__init__" = some (some (.ref fI))) (tI : PySem.W.typeIn X.K (.ref fI) = some (.type "function"))
    (F1 : FnOk X.prog X.w X.K X.mg X.base (L2.CX X.prog X.w) k fI fd ["self"] (spX0 X.K C)) (hr : Room (k + 1) X.A) (hb : Binds X.K fd ["self"] []) (hg : Gl X x) (hm : X.mg x = some (.ref C))
    (hdb : (x == ("__debug__" : Str)) = false := by decide) :
    PMk X (.Call (.Name x p) [] [] pos) (fun σ H Q => Q (.ref C) none H) := by
  intro pins s σ H Q I h
  obtain ⟨nm, q, N, bs, bm, sn, sub, ab, col, dd, k0, k1, k2, k3, k5, hC, hbm⟩ := T.cls
  refine wpAny_Call_Name_kw (ld_glob I hg hm ?_ hdb)
  refine PySem.W.callWith_K0 I.kIn T.kC ?_
  show wpAny _ _ (call (.ref C) []) _ _ _
  obtain ⟨hp, g, dr, tk, os⟩ := s
  have hsz : hp.objs.size ≤ hp.objs.size + 1 := Nat.le_succ _
  have hn : H (hp.objs.size + 1) = none := I.hok.fresh hsz
  have kk : ∀ b o, hp.get? b = some o → ((hp.push (PySem.W.kdv_tup [])).push (PySem.HandSPX.excO C hp.objs.size)).get? b = some o := fun b o e => Heap.get?_push_of_some _ (Heap.get?_push_of_some _ e)
  have hget : ((hp.push (PySem.W.kdv_tup [])).push (PySem.HandSPX.excO C hp.objs.size)).get? (hp.objs.size + 1) = some (PySem.HandSPX.excO C hp.objs.size) := by heap_get
  have I2 : Inv X pins σ (upd H (hp.objs.size + 1) (exo (hp.objs.size + 1) C none)) ⟨(hp.push (PySem.W.kdv_tup [])).push (PySem.HandSPX.excO C hp.objs.size), g, dr, tk, os⟩ :=
    I.laid (t' := tk) (a := hp.objs.size + 1) (o := exo (hp.objs.size + 1) C none) (h' := (hp.push (PySem.W.kdv_tup [])).push (PySem.HandSPX.excO C hp.objs.size)) kk hsz (exo_ok hget)
  have hd : del (upd H (hp.objs.size + 1) (exo (hp.objs.size + 1) C none)) (hp.objs.size + 1) = H := by
    funext b
    by_cases e : b = hp.objs.size + 1
    · rw [e, del_same, hn]
    · rw [del_ne e, upd_ne e]
  have hq : spX0 X.K C [.ref (hp.objs.size + 1)] (upd H (hp.objs.size + 1) (exo (hp.objs.size + 1) C none)) (fun v H2 => v = .non ∧ H2 (hp.objs.size + 1) = some (exo (hp.objs.size + 1) C none) ∧ Q (.ref C) none (del H2 (hp.objs.size + 1))) (fun _ _ _ => False) :=
    ⟨_, rfl, T, upd_same, rfl, upd_same, by rw [hd]; exact h⟩
  refine wpAny_call (PySem.HandSPX.call_own (rest := []) F.excBase_ValueError (fun Y => PySem.HandSPX.refsVE_contains Y bm hbm) (I.kIn _ _ hC) (PySem.W.looks_findIn I.kIn iC) (fun self => PySem.W.bind_fn I.kIn self tI) (Nat.zero_le _)
    (codeAny_mono (F1.run _ X.stack _ _ ⟨[Value.ref (hp.objs.size + 1)], []⟩ [Value.ref (hp.objs.size + 1)] [V.ref (hp.objs.size + 1)] _ (fun _ _ _ => False) (hr.make C [] []) (I2.env0.make C [] []) (hb _ [Value.ref (hp.objs.size + 1)] I2.kIn rfl) (.cons rfl .nil) hq) fun r s' hq' => ?_))
  cases r with
  | error er => exact passL pins σ _ _ er s' I2 hq'
  | ok fl =>
    cases fl with
    | ret u =>
      obtain ⟨v, H2, os2, bare2, un2, hok2, rv, ev, ea, q2⟩ := hq'
      subst ev
      obtain ⟨h2, g2, d2, t2, os'⟩ := s'
      exact ⟨rv, mk_endN (raises_own T.exC T.tyC) I hsz kk un2 hok2 os2 bare2 ea q2⟩
    | next => exact False.elim hq'
    | brk => exact False.elim hq'
    | cont => exact False.elim hq'
end
section
variable {cm : Nat → Option Addr} {X : Cx} {W : WX} {pos p pos2 : Pos} {m : EM} {e : Expr} {k : Nat} {C fI : Addr} {fd : FuncData} {x f y : Str} {cl : Nat}
theorem cs_raise0 (hc : X.calm = true) (tk : Takes X W) (T : OexC X.K C) (iC : PySem.W.findIn X.K (.ref C) "__init__" = some (some (.ref fI))) (tI : PySem.W.typeIn X.K (.ref fI) = some (.type "function"))
    (F1 : FnOk X.prog X.w X.K X.mg X.base (L2.CX X.prog X.w) k fI fd ["self"] (spX0 X.K C)) (hr : Room (k + 1) X.A) (hb : Binds X.K fd ["self"] []) (hm : X.mg x = some (.ref C)) (hcm : cm cl = some C) (hg : Gl X x := by rfl)
    (hdb : (x == ("__debug__" : Str)) = false := by decide) : CS cm X W (sRaise0 cl) (.Raise (some (.Call (.Name x p) [] [] pos2)) none pos) :=
  PS.weak (ps_raise hc tk (pmk_oex0 T iC tI F1 hr hb hg hm hdb)) fun D σ H ⟨B, ρ, st, G, R, h⟩ => h σ H G (.ref C) none (.refl G) R ⟨C, hcm, rfl, rfl, rfl⟩
theorem cs_raise1 (hc : X.calm = true) (tk : Takes X W) (T : OexC X.K C) (hno : PySem.W.findIn X.K (.ref C) f = some none) (iC : PySem.W.findIn X.K (.ref C) "__init__" = some (some (.ref fI))) (tI : PySem.W.typeIn X.K (.ref fI) = some (.type "function"))
    (F1 : FnOk X.prog X.w X.K X.mg X.base (L2.CX X.prog X.w) k fI fd ["self", y] (spX1 X.K C f)) (hr : Room (k + 1) X.A) (hb : Binds X.K fd ["self", y] []) (hm : X.mg x = some (.ref C)) (hcm : cm cl = some C) (he : CE cm X W m e) (hg : Gl X x := by rfl)
    (hdb : (x == ("__debug__" : Str)) = false := by decide) (hs : starEach [e] X.env = (false, eval e X.env) :: starEach [] X.env := by rfl) (hpl : (backTo pos2 (starEach [] X.env)).any (·.1) = false := by rfl) : CS cm X W (sRaise1 cl f m) (.Raise (some (.Call (.Name x p) [e] [] pos2)) none pos) :=
  PS.weak (ps_raise hc tk (pmk_oex T iC tI F1 hr hb .nil passL hg hm (pa_cons he pa_nil hs) hdb hs hpl)) fun D σ H ⟨B, ρ, st, G, R, h⟩ =>
  ⟨B, ρ, st, G, R, OutS.bind R h fun q st1 H1 G1 v s1 R1 rx h1 => ⟨by show 1 ≤ 1000; decide, fun a ha => ⟨a, v, rfl, T, hno, upd_same, fun dx hdx hne => by
    have hdx1 : H1 dx = none := by rw [upd_ne hne] at hdx; exact hdx
    obtain ⟨S2, s2⟩ := R1.toSRel.fresh (o := .xd [(f, v)]) hdx1
    refine ⟨rfl, dx, [(f, v)], upd_same, by rw [upd_ne hne, upd_same], hdx1, ?_⟩
    have eH : upd (del (upd (upd (upd H1 a (exo a C none)) dx (exd dx [(f, v)])) a (exo a C (some dx))) a) dx (.xd [(f, v)]) = upd H1 dx (.xd [(f, v)]) := by
      funext b
      by_cases e1 : b = dx
      · rw [e1, upd_same, upd_same]
      · rw [upd_ne e1, upd_ne e1]
        by_cases e2 : b = a
        · rw [e2, del_same, ha]
        · rw [del_ne e2, upd_ne e2, upd_ne e1, upd_ne e2]
    rw [eH]
    exact h1 σ _ G1 (.ref C) (some dx) (.refl G1) (R1.step s2 S2) ⟨C, hcm, rfl, [(f, v)], upd_same, rfl, .cons rx .nil⟩⟩⟩⟩
end
/-! ### try -/
section
variable {cm : Nat → Option Addr} {X : Cx} {W : WX} {pos : Pos} {b : SM} {body : List Stmt}
/-- which classes a clause catches -/
def Catch (cm : Nat → Option Addr) (K : PySem.W.Frag) (c : Value) (t : Nat → Option Bool) : Prop := ∀ cl k C, t cl = some k → cm cl = some C → PySem.W.exmOne K (.ref C) c = some k
inductive Clauses (cm : Nat → Option Addr) (X : Cx) : List ExceptHandler → List ((Nat → Option Bool) × SM) → List (Value × (Addr → Value → Option Addr → TS)) → Prop
  | nil : Clauses cm X [] [] []
  | cons {x : Str} {c : Value} {t : Nat → Option Bool} {n : SM} {b₀ : Stmt} {suite : List Stmt} {np pos' : Pos} {hds : List ExceptHandler} {l : List (Value × (Addr → Value → Option Addr → TS))} {ms : List ((Nat → Option Bool) × SM)} (hc : Names X x c) (ht : Catch cm X.K c t)
      (hsu : ∀ (a : Addr) (oe : Obj) (cls : Value) (d : Option Addr) (pn : List (Addr × Obj)), Zc cls d oe → (∃ vs, oe.data = .fields vs) → CSs cm (X.suite a ((a, oe) :: pn)) W0 n (b₀ :: suite)) (r : Clauses cm X hds ms l) :
      Clauses cm X (.ExceptHandler (some (.Name x np)) none (b₀ :: suite) pos' :: hds) ((t, n) :: ms) ((c, fun a cls d => tS (cnOf X cm) W0 n) :: l)
theorem Clauses.ok {hds : List ExceptHandler} {ms : List ((Nat → Option Bool) × SM)} {l : List (Value × (Addr → Value → Option Addr → TS))} (h : Clauses cm X hds ms l) : HdsOk X hds l := by
  induction h with
  | nil => exact .nil
  | cons hc ht hsu r ih => exact .cons hc hsu ih
theorem many_of {D : Ends} {B : Bs} {hds : List ExceptHandler} {ms : List ((Nat → Option Bool) × SM)} {l : List (Value × (Addr → Value → Option Addr → TS))} (h : Clauses cm X hds ms l) {cl : Nat} {ns : List Str} {vs : List PV} {ρ : Env} {st : Store} {σ : L2.St} {H : Hp} {G : Gh} {cls : Value} {d : Option Addr} (R : Rel (cnOf X cm) B σ ρ H st G)
    (er : ERep (cnOf X cm) G H cl ns vs cls d) (q : OutS (cnOf X cm) W B D G (handleGo ms cl ns vs ρ st)) : wMany X.K W D l cls d σ H := by
  induction h with
  | nil => exact q σ H G cls d (.refl G) R er
  | @cons x c t n b₀ suite np pos' hds l ms hc ht hsu r ih =>
    have q : OutS (cnOf X cm) W B D G (match t cl with | some true => (n ρ st).noex | some false => handleGo ms cl ns vs ρ st | none => .bad) := q
    obtain ⟨C, hcm, rfl, hd⟩ := id er
    cases e : t cl with
    | none => rw [e] at q; exact q.elim
    | some k =>
      rw [e] at q
      refine ⟨k, ht cl k C e hcm, fun hk a ha => ?_, fun hk => ?_⟩
      · subst hk
        refine ⟨B, ρ, st, G, R, ?_⟩
        have q : OutS (cnOf X cm) W B D G (n ρ st).noex := q
        cases hr : n ρ st with
        | next ρ1 st1 => rw [hr] at q; exact q
        | ret v st1 => rw [hr] at q; exact q
        | brk ρ1 st1 => rw [hr] at q; exact q
        | cnt ρ1 st1 => rw [hr] at q; exact q
        | ex a b c d e => rw [hr] at q; exact q.elim
        | bad => rw [hr] at q; exact q.elim
      · subst hk
        exact ih q
theorem try_core {B : Bs} {D : Ends} {G : Gh} {W' : WX} {ρ : Env} {st : Store} {h : Nat → List Str → List PV → Env → Store → SR} (q : OutS (cnOf X cm) W B D G (match b ρ st with | .ex cl ns vs ρ1 st1 => h cl ns vs ρ1 st1 | r => r))
    (k : ∀ cl ns vs ρ1 st1 σ1 H1 G1 cls d, Rel (cnOf X cm) B σ1 ρ1 H1 st1 G1 → ERep (cnOf X cm) G1 H1 cl ns vs cls d → OutS (cnOf X cm) W B D G1 (h cl ns vs ρ1 st1) → W' cls d σ1 H1) : OutS (cnOf X cm) W' B D G (b ρ st) := by
  cases hr : b ρ st with
  | next ρ1 st1 => rw [hr] at q; exact q
  | ret v st1 => rw [hr] at q; exact q
  | brk ρ1 st1 => rw [hr] at q; exact q
  | cnt ρ1 st1 => rw [hr] at q; exact q
  | ex cl ns vs ρ1 st1 =>
    rw [hr] at q
    exact fun σ1 H1 G1 cls d x1 R1 er => k cl ns vs ρ1 st1 σ1 H1 G1 cls d R1 er (OutS.later x1 q)
  | bad => rw [hr] at q; exact q.elim
theorem cs_try {h₀ : ExceptHandler} {hds : List ExceptHandler} {ms : List ((Nat → Option Bool) × SM)} {l : List (Value × (Addr → Value → Option Addr → TS))} (hs : X.stack = X.env :: X.outer) (hf : X.env.frame = some X.env.locals) (tk : Takes X W)
    (hb : ∀ (W' : WX) (pn : List (Addr × Obj)) (xe : Value → Shared → Prop), Takes (X.tr pn xe) W' → PassesOwn (model X.prog X.w) X.A X.env xe → CSs cm (X.tr pn xe) W' b body)
    (hh : Clauses cm X (h₀ :: hds) ms l) : CS cm X W (sTry b ms) (.Try body (h₀ :: hds) [] [] pos) :=
  PS.weak (ps_try_many (tb := fun W' => tS (cnOf X cm) W' b) hs hf tk hb hh.ok) fun D σ H ⟨B, ρ, st, G, R, q⟩ => ⟨B, ρ, st, G, R, try_core q fun cl ns vs ρ1 st1 σ1 H1 G1 cls d R1 er q1 => many_of hh R1 er q1⟩
theorem Rel.un {c : Cn} {B : Bs} {σ : L2.St} {ρ : Env} {H : Hp} {st : Store} {G : Gh} (R : Rel c B σ ρ H st G) (i : Nat) (x : Option V) : Rel c B (σ.set i x) (ρ.set i .un) H st G := by
  refine ⟨R.toSRel, R.base, by simp [R.len2], fun j sw y h1 h2 => ?_, fun j l sw sx a h1 h2 h3 h4 h5 h6 => ?_⟩
  · rcases getq_set h1 with ⟨_, _, e1⟩ | ⟨ne, g1⟩
    · subst e1
      trivial
    · rcases getq_set h2 with ⟨e, _, _⟩ | ⟨_, g2⟩
      · exact absurd e ne
      · exact R.slot j sw y g1 g2
  · rcases getq_set h1 with ⟨_, _, e1⟩ | ⟨ne1, g1⟩
    · subst e1; cases h3
    · rcases getq_set h2 with ⟨_, _, e1⟩ | ⟨ne2, g2⟩
      · subst e1; cases h4
      · rcases getq_set h5 with ⟨e, _, _⟩ | ⟨_, g5⟩
        · exact absurd e ne1
        · rcases getq_set h6 with ⟨e, _, _⟩ | ⟨_, g6⟩
          · exact absurd e ne2
          · exact R.dist j l sw sx a g1 g2 h3 h4 g5 g6
/-- except x as n: y = n.f -/
theorem cs_tryAs (i k : Nat) {x n y f : Str} {c : Value} {C : Addr} {t : Nat → Option Bool} {np pos' p1 p2 p3 p4 : Pos} (hs : X.stack = X.env :: X.outer) (hf : X.env.frame = some X.env.locals) (hN : X.N.Nodup) (hc : Names X x c) (tk : Takes X W) (ht : Catch cm X.K c t)
    (ho : ∀ cl C, t cl = some true → cm cl = some C → XfC X.K C ∧ PySem.W.findIn X.K (.ref C) f = some none) (hik : i ≠ k := by decide)
    (hb : ∀ (W' : WX) (pn : List (Addr × Obj)) (xe : Value → Shared → Prop), Takes (X.tr pn xe) W' → PassesOwn (model X.prog X.w) X.A X.env xe → CSs cm (X.tr pn xe) W' b body)
    (hi : X.N[i]? = some n := by rfl) (hln : X.env.kindOf n = some .local := by rfl) (hk : X.N[k]? = some y := by rfl) (hlk : X.env.scope.names.lookup y = some .local := by rfl) (hd : (n == ("__debug__" : Str)) = false := by decide) (hcd : (n == ("__classdict__" : Str)) = false := by decide)
    (hv : Vis X.env.scope n := by first | exact Or.inl rfl | exact Or.inr (Or.inl rfl) | exact Or.inr (Or.inr rfl)) (hab : attributeBase (.Name n p2) f X.env (eval (.Name n p2) X.env) = eval (.Name n p2) X.env := by rfl) :
    CS cm X W (sTryAs b t i k f) (.Try body [.ExceptHandler (some (.Name x np)) (some n) [.Assign [.Name y p1] (.Attribute (.Name n p2) f p3) p4] pos'] [] [] pos) := by
  refine PS.weak (ps_try_as (tb := fun W' => tS (cnOf X cm) W' b) (ts := fun a cls d D σ H => ∃ (dd : Addr) (fs : List (Str × V)) (v : V), σ[i]? = some (some (.ref a)) ∧ (∃ C, cls = .ref C ∧ XfC X.K C ∧ PySem.W.findIn X.K (.ref C) f = some none) ∧ d = some dd ∧ H dd = some (.xd fs) ∧ fs.lookup f = some v ∧ D.nx (σ.set k (some v)) H)
    hs hf hN hi hln hc tk hb fun a oe cls d pn hz hfl => ⟨fun pins s σ H D I h => ?_⟩) fun D σ H ⟨B, ρ, st, G, R, q⟩ => ⟨B, ρ, st, G, R, try_core q fun cl ns vs ρ1 st1 σ1 H1 G1 cls d R1 er q1 => ?_⟩
  · obtain ⟨dd, fs, v, hσ, ⟨C, ec, xf, hno⟩, ed, hdd, hl, q⟩ := h
    have pe := pe_xf (pos := p3) (d := d) (cls := cls) (pn := pn) xf hno hz hfl (pe_var (X := X.suite a ((a, oe) :: pn)) (pos := p2) hi hv hd hcd) hab
    exact (pss_one (ps_set (X := X.suite a ((a, oe) :: pn)) (pos := p4) (pos' := p1) hN hk (.inl hlk) pe rfl (.inr hlk))).run pins s σ H D I ⟨.ref a, hσ, rfl, ec, dd, fs, v, ed, hdd, hl, q⟩
  · have q1 : OutS (cnOf X cm) W B D G1 (match t cl with
      | some true => (match look2 ns vs f with
        | some p => if i < ρ1.length then .next (((ρ1.set i .un).set k (.val p)).set i .un) st1 else .bad
        | none => .bad)
      | some false => .ex cl ns vs ρ1 st1
      | none => .bad) := q1
    obtain ⟨C, hcm, rfl, hd⟩ := id er
    cases e : t cl with
    | none => rw [e] at q1; exact q1.elim
    | some b1 =>
      rw [e] at q1
      refine ⟨b1, ht cl b1 C e hcm, fun hk1 a ha => ?_, fun hk1 => ?_⟩
      · subst hk1
        obtain ⟨xf, hno⟩ := ho cl C e hcm
        have q1 : OutS (cnOf X cm) W B D G1 (match look2 ns vs f with
          | some p => if i < ρ1.length then .next (((ρ1.set i .un).set k (.val p)).set i .un) st1 else .bad
          | none => .bad) := q1
        cases el : look2 ns vs f with
        | none => rw [el] at q1; exact q1.elim
        | some p =>
          rw [el] at q1
          have q1 : OutS (cnOf X cm) W B D G1 (if i < ρ1.length then .next (((ρ1.set i .un).set k (.val p)).set i .un) st1 else .bad) := q1
          cases d with
          | none =>
            obtain ⟨rfl, rfl⟩ := hd
            cases el
          | some dd =>
            obtain ⟨fs, hdd, hn, rv⟩ := hd
            obtain ⟨v, hv', rp⟩ := look2_some hn rv el
            by_cases hil : i < σ1.length
            · rw [if_pos (by rw [R1.len2]; exact hil)] at q1
              refine ⟨dd, fs, v, by rw [List.getElem?_set_self hil], ⟨C, rfl, xf, hno⟩, rfl, hdd, hv', ?_⟩
              have Ra := R1.un i (some (.ref a))
              have Rb := Ra.setF (i := k) (sv := .val p) (.refl G1 H1) Ra.toSRel rp
              have Rc := Rb.un i none
              exact q1 _ H1 G1 (.refl G1) Rc
            · rw [if_neg (by rw [R1.len2]; exact hil)] at q1
              exact q1.elim
      · subst hk1
        exact q1 σ1 H1 G1 (.ref C) d (.refl G1) R1 er
end
end BR
set_option Elab.async false
set_option linter.all false
set_option maxRecDepth 100000
/-! BrL: what the head tells: properties, exceptions, tables; levels. -/
namespace BR
open PySem PySem.Spec PyProof.Rows L2
open He (ba eqO eqO_ok ga ma fAd)
section
variable {K : PySem.W.Frag} {x f : Str}
theorem prop_ok (c : (Fb.prop x f).ok K = true) : PropOf K (ga K x) f (pAd K x f) (gAd x f K) := by
  obtain ⟨c1, c⟩ := ba c
  obtain ⟨c2, c⟩ := ba c
  obtain ⟨c3, c4⟩ := ba c
  refine ⟨eqO_ok c1, eqO_ok c2, of_decide_eq_true c3, ?_⟩
  unfold gAd
  cases e : PySem.W.recIn K (pAd K x f) "property" with
  | none => rw [e] at c4; cases c4
  | some l =>
    rw [e] at c4
    cases l with
    | nil => cases c4
    | cons v r =>
      cases v with
      | ref g => exact ⟨r, rfl⟩
      | _ => cases c4
theorem oexB_ok {C : Addr} (h : oexB K C = true) : ∃ nm q N bs bm sn sub ab col dd k0 k1 k2 k3 k5, K.lookup C = some (excClassObj nm q C N bs bm true sn sub ab col dd k0 k1 k2 k3 k5 "ValueError.__new__") ∧ PySem.HandSPX.refsVE bm = true := by
  unfold oexB at h
  split at h
  · rename_i t dd cd sl ho
    split at h
    · rename_i D bm k0 k1 k2 k3 n k5 hm hs
      obtain ⟨h1, h⟩ := ba h
      obtain ⟨h2, h⟩ := ba h
      obtain ⟨h3, h⟩ := ba h
      obtain ⟨h4, h⟩ := ba h
      obtain ⟨h5, h6⟩ := ba h
      have e1 := of_decide_eq_true h1
      have e2 := of_decide_eq_true h2
      have e3 := of_decide_eq_true h3
      obtain ⟨nm, bs, mro, ns, qn, hd, sn, sub, ab, col, del⟩ := cd
      have e5 : del = false := by
        cases del with
        | false => rfl
        | true => cases h5
      have e4 : hd = true := h4
      have e6 : mro = .ref D :: bm := hm
      obtain ⟨l⟩ := sl
      have e7 : l = [k0, k1, k2, k3, some (.builtin n), k5] := hs
      subst e1 e2 e3 e4 e5 e6 e7
      exact ⟨_, _, _, _, _, _, _, _, _, _, _, _, _, _, _, ho, h6⟩
    · cases h
  · cases h
theorem oex_ok (c : (Fb.oex x).ok K = true) : OexC K (ga K x) := by
  obtain ⟨c1, c⟩ := ba c
  obtain ⟨c2, c⟩ := ba c
  obtain ⟨c3, c⟩ := ba c
  obtain ⟨c4, c5⟩ := ba c
  exact ⟨oexB_ok c1, eqO_ok c2, of_decide_eq_true c3, of_decide_eq_true c4, c5⟩
theorem bex_ok (c : (Fb.bex x).ok K = true) : BexC K (ga K x) := by
  obtain ⟨c1, c⟩ := ba c
  obtain ⟨c2, c3⟩ := ba c
  refine ⟨eqO_ok c1, c2, ?_⟩
  cases e : PySem.W.findCls K (.ref (ga K x)) (.type "type") "__init__" with
  | none => rw [e] at c3; cases c3
  | some r =>
    rw [e] at c3
    cases r with
    | get a b d e => cases c3
    | val v =>
      cases v with
      | builtin b => rw [of_decide_eq_true (show decide (b = "ValueError.__init__") = true from c3)]
      | _ => cases c3
theorem xfc_ok (c : (Fb.xfc x).ok K = true) : XfC K (ga K x) := xfB_ok c
theorem ini_ok (c : (Fb.ini x).ok K = true) : PySem.W.findIn K (.ref (ga K x)) "__init__" = some (some (.ref (ma K (ga K x) "__init__"))) ∧ PySem.W.typeIn K (.ref (ma K (ga K x) "__init__")) = some (.type "function") := by
  obtain ⟨c1, c2⟩ := ba c
  exact ⟨eqO_ok c1, of_decide_eq_true c2⟩
theorem tab_ok {kvs : List (Str × Str)} (c : (Fb.tab x kvs).ok K = true) : ∀ q ∈ kvs, ∃ t, PySem.W.nsIn K (ga K x) q.1 = some (some (.str q.2 t)) := fun q hq => by
  have z := List.all_eq_true.mp c q hq
  cases e : PySem.W.nsIn K (ga K x) q.1 with
  | none => rw [e] at z; cases z
  | some r =>
    rw [e] at z
    cases r with
    | none => cases z
    | some v =>
      cases v with
      | str y t => exact ⟨t, by rw [of_decide_eq_true (show decide (y = q.2) = true from z)]⟩
      | _ => cases z
end
/-! ### a def by its address -/
theorem DD.funD {K : PySem.W.Frag} {d : DD} (e : fnWA K (d.adr K) = d.val) (c : d.ok K = true) : FunD K d.name d.qual d.params d.body d.scope [] [] (d.adr K) (fdOf K (d.adr K)) := by
  obtain ⟨kp, c2⟩ := ba c
  unfold fnWA at e
  unfold fdOf
  cases q : K.lookup (d.adr K) with
  | none =>
    rw [q] at c2
    cases c2
  | some o =>
    obtain ⟨oc, od, dt, osl⟩ := o
    rw [q] at c2 e
    cases dt with
    | func fd =>
      obtain ⟨k1, k2⟩ := ba (show (PySem.W.codeIn K fd.code d.qual && noneV fd.defaults) = true from c2)
      obtain ⟨m1, m2, m3, m4, m5, m6, m7, m8, m9, m10, m11, m12, m13, m14, m15⟩ := fd
      have e2 : (some (m1, m2, m3, m4, m5, m6, m7, m15) : He.FnW) = some (d.name, d.qual, d.params, .stmts d.body, d.scope, mainGlobals, [], builtinsNs) := e
      simp only [Option.some.injEq, Prod.mk.injEq] at e2
      obtain ⟨h1, h2, h3, h4, h5, h6, h7, h8⟩ := e2
      have k3 : m8 = .none := by
        have k2 : noneV m8 = true := k2
        cases m8 with
        | none => rfl
        | _ => cases k2
      subst h1 h2 h3 h4 h5 h6 h7 h8 k3
      exact ⟨⟨oc, od, _, m9, m10, m11, m12, m13, m14, osl, rfl, q, k1, .inl ⟨rfl, rfl⟩, .inl rfl⟩, kp⟩
    | _ => cases c2
def valB (ts : List He.Tab) (gs : List DD) (w : World) : AlB := (true, ts.map fun t => some (He.keysIn w.params t.2), gs.map DD.val)
def SaysB (fa : List He.Fa) (fb : List Fb) (ts : List He.Tab) (gs : List DD) (w : World) (K : PySem.W.Frag) : Prop := lookB fa fb ts gs K = valB ts gs w
def hookB (n : Nat) (fa : List He.Fa) (fb : List Fb) (ts : List He.Tab) (gs : List DD) : PySem.W.Hook where
  α := AlB
  obs := fun s => obsB n fa fb ts gs s.heap.get?
  val := fun w => valB ts gs w
  says := fun w h => ∃ K : PySem.W.Frag, K.In h ∧ SaysB fa fb ts gs w K
  of := fun _ _ e => ⟨_, He.frT_in, e⟩
  keeps := fun _ _ _ ⟨K, hK, c⟩ k => ⟨K, PySem.W.Frag.In.keeps hK k, c⟩
theorem obsB_eq {n : Nat} {fa : List He.Fa} {fb : List Fb} {ts : List He.Tab} {gs : List DD} {g : Addr → Option Obj} {s : Shared} (h : ∀ a, g a = s.heap.get? a) : obsB n fa fb ts gs g = (hookB n fa fb ts gs).obs s := by
  have e : g = s.heap.get? := funext h
  rw [e] <;> rfl
/-- what a law's walk leans on -/
structure Fx (fa : List He.Fa) (fb : List Fb) (ts : List He.Tab) (gs : List DD) (w : World) (K : PySem.W.Frag) (mg : Str → Option Value) : Prop where
  ex : ∃ h : Heap, K.In h ∧ h.Ns mainGlobals mg ∧ SaysB fa fb ts gs w K
section
variable {fa : List He.Fa} {fb : List Fb} {ts : List He.Tab} {gs : List DD} {w : World} {K : PySem.W.Frag} {mg : Str → Option Value}
theorem SaysB.b (c : SaysB fa fb ts gs w K) : ((fa.all fun f => f.ok K) && exB fb gs K) = true := congrArg (fun z : AlB => z.1) c
theorem SaysB.t (c : SaysB fa fb ts gs w K) : (ts.map fun t => He.dicW K (t.1 K)) = ts.map fun t => some (He.keysIn w.params t.2) := congrArg (fun z : AlB => z.2.1) c
theorem SaysB.g (c : SaysB fa fb ts gs w K) : (gs.map fun d => fnWA K (d.adr K)) = gs.map DD.val := congrArg (fun z : AlB => z.2.2) c
theorem Fx.fact (F : Fx fa fb ts gs w K mg) (i : Nat) {f : He.Fa} (h : fa[i]? = some f := by rfl) : f.ok K = true := by
  obtain ⟨hp, _, _, c⟩ := F.ex
  exact List.all_eq_true.mp (ba c.b).1 f (List.mem_of_getElem? h)
theorem Fx.more (F : Fx fa fb ts gs w K mg) (i : Nat) {f : Fb} (h : fb[i]? = some f := by rfl) : f.ok K = true := by
  obtain ⟨hp, _, _, c⟩ := F.ex
  exact List.all_eq_true.mp (ba (ba c.b).2).1 f (List.mem_of_getElem? h)
theorem Fx.fn_ (F : Fx fa fb ts gs w K mg) (i : Nat) {d : DD} (h : gs[i]? = some d := by rfl) : FunD K d.name d.qual d.params d.body d.scope [] [] (d.adr K) (fdOf K (d.adr K)) := by
  obtain ⟨hp, _, _, c⟩ := F.ex
  have e2 : (gs.map fun d => fnWA K (d.adr K))[i]? = (gs.map DD.val)[i]? := by rw [c.g]
  rw [List.getElem?_map, List.getElem?_map, h] at e2
  exact DD.funD (Option.some.inj e2) (List.all_eq_true.mp (ba (ba c.b).2).2 d (List.mem_of_getElem? h))
theorem Fx.glo (F : Fx fa fb ts gs w K mg) (i : Nat) {x : Str} (h : fa[i]? = some (.glo x) := by rfl) : mg x = some (.ref (ga K x)) := by
  obtain ⟨hp, X, G, c⟩ := id F.ex
  exact He.glo_ok X G (F.fact i h)
theorem Fx.free (F : Fx fa fb ts gs w K mg) (i : Nat) {x : Str} (h : fa[i]? = some (.free x) := by rfl) : mg x = none := by
  obtain ⟨hp, X, G, c⟩ := id F.ex
  exact He.free_ok X G (F.fact i h)
theorem Fx.str (F : Fx fa fb ts gs w K mg) (i : Nat) {x z : Str} (h : fa[i]? = some (.str x z) := by rfl) : ∃ t, mg x = some (.str z t) := by
  obtain ⟨hp, X, G, c⟩ := id F.ex
  exact He.str_ok X G (F.fact i h)
theorem Fx.int (F : Fx fa fb ts gs w K mg) (i : Nat) {x : Str} {z : Int} (h : fa[i]? = some (.int x z) := by rfl) : ∃ t, mg x = some (.int z t) := by
  obtain ⟨hp, X, G, c⟩ := id F.ex
  exact He.int_ok X G (F.fact i h)
theorem Fx.cls (F : Fx fa fb ts gs w K mg) (i : Nat) {x : Str} (h : fa[i]? = some (.cls x) := by rfl) : Cls K (ga K x) := He.cls_ok (F.fact i h)
theorem Fx.noat (F : Fx fa fb ts gs w K mg) (i : Nat) {x f : Str} (h : fa[i]? = some (.noat x f) := by rfl) : NoAttr K (ga K x) f := He.noat_ok (F.fact i h)
theorem Fx.meth (F : Fx fa fb ts gs w K mg) (i : Nat) {x f : Str} (h : fa[i]? = some (.meth x f) := by rfl) : Meth K (ga K x) f (ma K (ga K x) f) := He.meth_ok (F.fact i h)
theorem Fx.mkr (F : Fx fa fb ts gs w K mg) (i : Nat) {x : Str} (h : fa[i]? = some (.mkr x) := by rfl) : Mk K (ga K x) (ma K (ga K x) "__init__") := He.mkr_ok (F.fact i h)
theorem Fx.exm (F : Fx fa fb ts gs w K mg) (i : Nat) {x y : Str} {b : Bool} (h : fa[i]? = some (.exm x y b) := by rfl) : PySem.W.exmOne K (.ref (ga K x)) (.ref (ga K y)) = some b := He.exm_ok (F.fact i h)
theorem Fx.tbl (F : Fx fa fb ts gs w K mg) (i j : Nat) {x : Str} {ks : List Str} {kvs : List (Str × Str)} (h : ts[i]? = some (fun K => ga K x, ks) := by rfl) (h2 : fb[j]? = some (.tab x kvs) := by rfl) : ∀ q ∈ kvs, KDct K w (ga K x) q.1 (.str q.2) := fun q hq => by
  obtain ⟨hp, _, _, c⟩ := id F.ex
  have e2 : (ts.map fun t => He.dicW K (t.1 K))[i]? = (ts.map fun t => some (He.keysIn w.params t.2))[i]? := by rw [c.t]
  rw [List.getElem?_map, List.getElem?_map, h] at e2
  obtain ⟨es, n, D⟩ := He.dicW_ok (Option.some.inj e2)
  obtain ⟨t, e⟩ := tab_ok (F.more j h2) q hq
  exact ⟨es, n, _, D.at_, D.lit, e, ⟨t, rfl⟩⟩
end
/-! ### levels -/
section
variable {P : Program} {w : World} {K : PySem.W.Frag} {mg : Str → Option Value} {base : Heap} {cm : Nat → Option Addr} {T : Nat → Option Fn} {f : Addr} {fd : FuncData} {ps : List Str} {id cl : Nat}
theorem ok_zero {k : Nat} : FnOk P w K mg base (L2.CX P w) k f fd ps (spF ⟨P, w, K, cm⟩ (runFn T 0 id)) :=
  ⟨fun vs H Q E ⟨_, _, _, _, _, h⟩ => h.elim, fun A outer s H args us vs Q E _ _ _ _ ⟨_, _, _, _, _, h⟩ => h.elim⟩
theorem ok_zeroI {k : Nat} : FnOk P w K mg base (L2.CX P w) k f fd ps (spI ⟨P, w, K, cm⟩ cl (runFn T 0 id)) :=
  ⟨fun vs H Q E ⟨_, _, _, _, _, _, _, _, _, _, _, _, _, _, _, _, h⟩ => h.elim, fun A outer s H args us vs Q E _ _ _ _ ⟨_, _, _, _, _, _, _, _, _, _, _, _, _, _, _, _, h⟩ => h.elim⟩
end
section
variable {cm : Nat → Option Addr} {X : Cx} {W : WX} {pos : Pos} {x : Str} {m : EM} {e : Expr}
theorem ce_gstr {z : Str} {s : List Nat} (h : ∃ t, X.mg x = some (.str z t)) (hz : z = ⟨s.toArray⟩ := by decide +kernel) (hg : Gl X x := by rfl) (hd : (x == ("__debug__" : Str)) = false := by decide) : CE cm X W (eC (.str s)) (.Name x pos) := by
  obtain ⟨t, h⟩ := h
  subst hz
  exact ce_glob hg h (v := .str ⟨s.toArray⟩) ⟨t, rfl⟩ (fun _ => .str) hd
theorem ce_gint {z : Int} (h : ∃ t, X.mg x = some (.int z t)) (hg : Gl X x := by rfl) (hd : (x == ("__debug__" : Str)) = false := by decide) : CE cm X W (eC (.int z)) (.Name x pos) := by
  obtain ⟨t, h⟩ := h
  exact ce_glob hg h (v := .int z) ⟨t, rfl⟩ (fun _ => .int) hd
end
end BR
set_option Elab.async false
set_option linter.all false
set_option maxRecDepth 100000
/-! BrM: built-ins, what is walked, tables. -/
namespace BR
open PySem PySem.Spec PyProof.Rows L2
section
variable {cm : Nat → Option Addr} {X : Cx} {W : WX} {pos p p2 : Pos} {m n : EM} {e it tg : Expr} {x : Str}
/-! ### what is walked -/
theorem walks_str {c : Cn} {G : Gh} (s : List Nat) : Walks c (Its ⟨s.toArray⟩) (s.map fun k => .str [k]) G := fun i H G2 st x2 S2 => by
  refine ⟨fun q hq => ?_, fun hi => by show s.toArray.size ≤ i; simpa using Nat.le_of_eq hi⟩
  rw [List.getElem?_map] at hq
  cases e : s[i]? with
  | none => rw [e] at hq; cases hq
  | some k =>
    rw [e] at hq
    cases hq
    have hi := (List.getElem?_eq_some_iff.mp e).1
    refine ⟨by show i < s.toArray.size; simpa using hi, fun v H' y => ?_⟩
    obtain ⟨rfl, k', hk, rfl⟩ := y
    have hk : s.toArray[i]? = some k' := hk
    rw [List.getElem?_toArray, e] at hk
    cases hk
    exact ⟨G2, .refl _ _, S2, .str (s := [k])⟩
def strOf : PV → Option (List PV)
  | .str s => some (s.map fun k => .str [k])
  | _ => none
def wStr (m : EM) : AM := fun ρ st => (m ρ st).bind fun p st1 => R.ofOpt (strOf p) st1
theorem ci_str (h : CE cm X W m it) : CI cm X W (wStr m) tg it := PI.weak (pi_str h) fun σ H R ⟨B, ρ, st, G, Rl, h⟩ =>
  ⟨B, ρ, st, G, Rl, Out.bindR early_I Rl h fun p st1 H1 G1 x s1 R1 rx h1 => by
    cases rx with
    | @str s => exact ⟨_, rfl, h1 H1 G1 _ (.refl G1 H1) R1.toSRel (walks_str s)⟩
    | _ => exact h1.elim⟩
theorem ci_any (h : CE cm X W m it) : CI cm X W (wItems m) tg it := ⟨fun pins s σ H R I ⟨B, ρ, st, G, Rl, hh⟩ => by
  have key : ∀ (w : AM), w ρ st = wItems m ρ st → CI cm X W w tg it → _ := fun w e hw => hw.run pins s σ H R I ⟨B, ρ, st, G, Rl, by rw [e]; exact hh⟩
  cases e : m ρ st with
  | bad => 
    have e2 : wItems m ρ st = .bad := by unfold wItems; rw [e]; rfl
    rw [e2] at hh
    exact hh.elim
  | ex a b d f =>
    refine key (wLst m) ?_ (ci_lst h)
    unfold wLst wItems
    rw [e]
    rfl
  | ok q st1 =>
    cases q with
    | lst xs =>
      refine key (wLst m) ?_ (ci_lst h)
      unfold wLst wItems
      rw [e]
      rfl
    | tup xs =>
      refine key (wTup m) ?_ (ci_tup h)
      unfold wTup wItems
      rw [e]
      rfl
    | str z =>
      refine key (wStr m) ?_ (ci_str h)
      unfold wStr wItems
      rw [e]
      rfl
    | _ =>
      have e2 : wItems m ρ st = .bad := by unfold wItems; rw [e]; rfl
      rw [e2] at hh
      exact hh.elim⟩
/-! ### isinstance -/
theorem tyx_of {c : Cn} {G : Gh} {H : Hp} {st : Store} {v : V} {q : PV} {t : String} (S : SRel c H st G) (r : RepV c G v q) (h : tyName q = some t) : L2.TyX c.K H v (.type t) := by
  cases r with
  | non => cases h; exact .base .non
  | bl => cases h; exact .base (.bl _)
  | int => cases h; exact .base (.int _)
  | str => cases h; exact .base (.str _)
  | tup ha ra =>
    cases h
    rcases S.sqT ha with (k | ⟨o, k⟩) | ⟨o, its, n, k, e1, e2, _⟩
    · exact .base (.tup k)
    · exact .fTuple k
    · exact .kTuple k e1
  | lst ha ra => cases h; exact .base (.lst (S.lst ha))
  | _ => cases h
def isaAll : List String := ["NoneType", "bool", "int", "str", "tuple", "list"]
theorem isa_kit {t T : String} (h1 : t ∈ isaAll) (h2 : T ∈ ["bool", "int", "str", "tuple", "list"]) : kitB t T = some (isaB t T) := by
  have h : ∀ a ∈ isaAll, ∀ b ∈ ["bool", "int", "str", "tuple", "list"], kitB a b = some (isaB a b) := by decide +kernel
  exact h t h1 T h2
theorem tyName_in {q : PV} {t : String} (h : tyName q = some t) : t ∈ isaAll := by
  cases q <;> cases h <;> decide
theorem ce_isi {T : String} {x : Str} (hx : x = Str.ofString T) (hT : T ∈ ["bool", "int", "str", "tuple", "list"]) (hm : X.mg "isinstance" = none) (hmT : X.mg x = none) (hbT : bootBuiltins x = some (.type T)) (he : CE cm X W m e) (hg : Gl X "isinstance" := by rfl) (hgT : Gl X x := by rfl)
    (hn : x ≠ "__name__" := by decide) (hd : (x == ("__debug__" : Str)) = false := by decide) (hs : starEach [e, .Name x p2] X.env = (false, eval e X.env) :: starEach [.Name x p2] X.env := by rfl) (hs1 : starEach [.Name x p2] X.env = (false, eval (.Name x p2) X.env) :: starEach [] X.env := by rfl) (hpl : (backTo pos (starEach [.Name x p2] X.env)).any (·.1) = false := by rfl) :
    CE cm X W (eOp1 (pIsI [T]) m) (.Call (.Name "isinstance" p) [e, .Name x p2] [] pos) :=
  PE.weak (pe_callB call_isi hg hm PyProof.Rows.boot_isinstance (pa_cons he (pa_cons (pe_bltn (v := .ty T) hgT hmT hbT rfl hn hd) pa_nil hs1) hs) (by decide) (by decide) hs hpl) fun σ H Q ⟨B, ρ, st, G, R, h⟩ =>
  ⟨B, ρ, st, G, R, Out.bindR early_E R h fun q st1 H1 G1 v s1 R1 rx h1 => by
    obtain ⟨z, ez, h2⟩ := out_ofOpt h1
    cases et : tyName q with
    | none => unfold pIsI at ez; rw [et] at ez; cases ez
    | some t =>
      unfold pIsI at ez
      rw [et] at ez
      have ez : some (PV.bl ([T].any (isaB t))) = some z := ez
      rw [List.any_cons, List.any_nil, Bool.or_false] at ez
      cases ez
      exact ⟨v, .ty T, .type t, .type T, isaB t T, rfl, .ty T, tyx_of (c := cnOf X cm) R1.toSRel rx et, kit_ty (isa_kit (tyName_in et) hT), h2 H1 G1 _ (.refl G1 H1) R1.toSRel .bl⟩⟩
/-- isinstance(x, (T, U)) -/
theorem ce_isi2 {T U : String} {x y : Str} {kk : Nat} {p3 p4 : Pos} (hT : T ∈ ["bool", "int", "str", "tuple", "list"]) (hU : U ∈ ["bool", "int", "str", "tuple", "list"]) (hm : X.mg "isinstance" = none) (hmT : X.mg x = none) (hbT : bootBuiltins x = some (.type T)) (hmU : X.mg y = none) (hbU : bootBuiltins y = some (.type U)) (he : CE cm X W m e)
    (hg : Gl X "isinstance" := by rfl) (hgT : Gl X x := by rfl) (hgU : Gl X y := by rfl)
    (hn : x ≠ "__name__" := by decide) (hd : (x == ("__debug__" : Str)) = false := by decide) (hn2 : y ≠ "__name__" := by decide) (hd2 : (y == ("__debug__" : Str)) = false := by decide)
    (hs : starEach [e, .Tuple [.Name x p2, .Name y p3] kk p4] X.env = (false, eval e X.env) :: starEach [.Tuple [.Name x p2, .Name y p3] kk p4] X.env := by rfl) (hs1 : starEach [.Tuple [.Name x p2, .Name y p3] kk p4] X.env = (false, eval (.Tuple [.Name x p2, .Name y p3] kk p4) X.env) :: starEach [] X.env := by rfl) (hpl : (backTo pos (starEach [.Tuple [.Name x p2, .Name y p3] kk p4] X.env)).any (·.1) = false := by rfl)
    (hs2 : starEach [.Name x p2, .Name y p3] X.env = (false, eval (.Name x p2) X.env) :: starEach [.Name y p3] X.env := by rfl) (hs3 : starEach [.Name y p3] X.env = (false, eval (.Name y p3) X.env) :: starEach [] X.env := by rfl) :
    CE cm X W (eOp1 (pIsI [T, U]) m) (.Call (.Name "isinstance" p) [e, .Tuple [.Name x p2, .Name y p3] kk p4] [] pos) :=
  PE.weak (pe_callB call_isiT hg hm PyProof.Rows.boot_isinstance (pa_cons he (pa_cons (pe_tup (pa_cons (pe_bltn (v := .ty T) hgT hmT hbT rfl hn hd) (pa_cons (pe_bltn (v := .ty U) hgU hmU hbU rfl hn2 hd2) pa_nil hs3) hs2)) pa_nil hs1) hs) (by decide) (by decide) hs hpl) fun σ H Q ⟨B, ρ, st, G, R, h⟩ =>
  ⟨B, ρ, st, G, R, Out.bindR early_E R h fun q st1 H1 G1 v s1 R1 rx h1 => by
    obtain ⟨z, ez, h2⟩ := out_ofOpt h1
    refine ⟨(by show 2 ≤ _; decide), fun tp htp => ?_⟩
    cases et : tyName q with
    | none => unfold pIsI at ez; rw [et] at ez; cases ez
    | some t =>
      unfold pIsI at ez
      rw [et] at ez
      have ez : some (PV.bl ([T, U].any (isaB t))) = some z := ez
      rw [List.any_cons, List.any_cons, List.any_nil, Bool.or_false] at ez
      cases ez
      obtain ⟨S2, s2⟩ := R1.toSRel.fresh (o := .tup [.ty T, .ty U]) htp
      have k1 := kit_ty (K := X.K) (isa_kit (tyName_in et) hT)
      have k2 := kit_ty (K := X.K) (isa_kit (tyName_in et) hU)
      refine ⟨v, tp, [.ty T, .ty U], .type t, [.type T, .type U], isaB t T || isaB t U, rfl, upd_same, .cons (.ty T) (.cons (.ty U) .nil), tyx_of (c := cnOf X cm) S2 rx et, ?_, h2 _ G1 _ s2 S2 .bl⟩
      refine kitAny_cons k1 (fun e1 => ?_) fun e1 => by rw [e1]; rfl
      rw [e1, Bool.false_or]
      exact kitAny_cons k2 (fun e2 => by rw [e2]; rfl) fun e2 => e2⟩
/-! ### sum, all, join -/
theorem ints_rep {c : Cn} {G : Gh} : ∀ {vs : List V} {qs : List PV} {l : List Int}, RepVs c G vs qs → ints? qs = some l → vs = l.map V.int
  | _, _, _, .nil, h => by cases h; rfl
  | _, _, _, .cons (p := q) (ps := qs) r t, h => by
    cases r with
    | @int i =>
      have h : (ints? qs).map (fun l => i :: l) = some _ := h
      cases e : ints? qs with
      | none => rw [e] at h; cases h
      | some l =>
        rw [e] at h
        cases h
        rw [ints_rep t e]
        rfl
    | _ => cases h
theorem bls_rep {c : Cn} {G : Gh} : ∀ {vs : List V} {qs : List PV} {l : List Bool}, RepVs c G vs qs → bls? qs = some l → vs = l.map V.bl
  | _, _, _, .nil, h => by cases h; rfl
  | _, _, _, .cons (p := q) (ps := qs) r t, h => by
    cases r with
    | @bl i =>
      have h : (bls? qs).map (fun l => i :: l) = some _ := h
      cases e : bls? qs with
      | none => rw [e] at h; cases h
      | some l =>
        rw [e] at h
        cases h
        rw [bls_rep t e]
        rfl
    | _ => cases h
theorem strs_rep {c : Cn} {G : Gh} : ∀ {vs : List V} {qs : List PV} {l : List (List Nat)}, RepVs c G vs qs → strs? qs = some l → vs = (l.map fun s => (⟨s.toArray⟩ : Str)).map V.str
  | _, _, _, .nil, h => by cases h; rfl
  | _, _, _, .cons (p := q) (ps := qs) r t, h => by
    cases r with
    | @str i =>
      have h : (strs? qs).map (fun l => i :: l) = some _ := h
      cases e : strs? qs with
      | none => rw [e] at h; cases h
      | some l =>
        rw [e] at h
        cases h
        rw [strs_rep t e]
        rfl
    | _ => cases h
theorem map_some {α β : Type} {o : Option α} {f : α → β} {b : β} (h : o.map f = some b) : ∃ a, o = some a ∧ f a = b := by
  cases o with
  | none => cases h
  | some a => exact ⟨a, rfl, Option.some.inj h⟩
theorem rd_sum {c : Cn} : RdN c (rSum c.K) nSum := by
  intro G H st vs ps z Q S r h k
  match ps, h with
  | [.lst xs], h =>
    obtain ⟨v, rfl, r1⟩ := rep1 r
    cases r1 with
    | lst ha ra =>
      obtain ⟨l, e, rfl⟩ := map_some (show (ints? xs).map (fun l => PV.int l.sum) = some z from h)
      refine ⟨_, l, rfl, ?_, rd_now S .int k⟩
      rw [← ints_rep ra e]
      exact SqL.of (S.lst ha)
theorem rd_all {c : Cn} : RdN c (rAll c.K) nAll := by
  intro G H st vs ps z Q S r h k
  match ps, h with
  | [.lst xs], h =>
    obtain ⟨v, rfl, r1⟩ := rep1 r
    cases r1 with
    | lst ha ra =>
      obtain ⟨l, e, rfl⟩ := map_some (show (bls? xs).map (fun l => PV.bl (l.all id)) = some z from h)
      refine ⟨_, l, rfl, ?_, rd_now S .bl k⟩
      rw [← bls_rep ra e]
      exact SqL.of (S.lst ha)
theorem joinL_eq (a : List Nat) : ∀ l : List (List Nat), (Txt.join ⟨a.toArray⟩ (l.map fun s => (⟨s.toArray⟩ : Str))) = ⟨(joinL a l).toArray⟩ := by
  intro l
  rw [TL.join_eq]
  apply TL.ext_tl
  rw [TL.tl_join]
  have e : (l.map fun s => (⟨s.toArray⟩ : Str)).map TL.tl = l := by
    rw [List.map_map]
    exact List.map_id'' (fun s => rfl) l
  rw [e]
  show TL.joinL a l = joinL a l
  have key : ∀ l : List (List Nat), TL.joinL a l = joinL a l := by
    intro l
    induction l with
    | nil => rfl
    | cons x r ih =>
      cases r with
      | nil => rfl
      | cons y r =>
        show x ++ (a ++ TL.joinL a (y :: r)) = x ++ a ++ joinL a (y :: r)
        rw [ih, List.append_assoc]
  exact key l
theorem strs_len (a : List Nat) (l : List (List Nat)) : ((l.map fun s => (⟨s.toArray⟩ : Str)).map (·.length)).sum + (l.map fun s => (⟨s.toArray⟩ : Str)).length * (⟨a.toArray⟩ : Str).length = (l.map List.length).sum + l.length * a.length := by
  rw [List.map_map, List.length_map]
  have e : ((fun x : Str => x.length) ∘ fun s : List Nat => (⟨s.toArray⟩ : Str)) = List.length := by
    funext s
    exact str_len s
  rw [e, str_len]
theorem ce_join {o : Expr} {apos : Pos} (ho : CE cm X W m o) (he : CE cm X W n e) (hs : starEach [e] X.env = [(false, eval e X.env)] := by rfl) (hbase : attributeBase o "join" X.env (eval o X.env) = eval o X.env := by rfl) (hline : (apos.endLine == pos.line) = true := by rfl) :
    CE cm X W (eJoin m n) (.Call (.Attribute o "join" apos) [e] [] pos) := PE.weak (pe_join ho he hs hbase hline) fun σ H Q ⟨B, ρ, st, G, R, h⟩ =>
  ⟨B, ρ, st, G, R, Out.bindR early_E R h fun q st1 H1 G1 v s1 R1 rx h1 => by
    cases rx with
    | @str a =>
      refine ⟨⟨_, rfl⟩, B, ρ, st1, G1, R1, Out.bindR early_E R1 h1 fun r st2 H2 G2 y s2 R2 ry h2 => ?_⟩
      obtain ⟨z, ez, h3⟩ := out_ofOpt h2
      cases ry with
      | @lst b vs qs hb rb =>
        have ez : (strs? qs).bind (fun l => if (l.map List.length).sum + l.length * a.length ≤ lim then some (PV.str (joinL a l)) else none) = some z := ez
        cases el : strs? qs with
        | none => rw [el] at ez; cases ez
        | some l =>
          rw [el] at ez
          obtain ⟨hl, rfl⟩ := some_ite (show (if (l.map List.length).sum + l.length * a.length ≤ lim then some (PV.str (joinL a l)) else none) = some z from ez)
          refine ⟨⟨a.toArray⟩, b, l.map fun s => ⟨s.toArray⟩, rfl, rfl, .inl ?_, ?_, ?_⟩
          · rw [← strs_rep rb el]
            exact SqL.of (R2.lst hb)
          · rw [strs_len]
            exact Nat.le_trans hl (by decide)
          · rw [joinL_eq]
            exact h3 H2 G2 _ (.refl G2 H2) R2.toSRel .str
      | _ => cases ez
    | _ => exact h1.elim⟩
/-! ### tables -/
theorem ce_tab {a : Addr} {kvs : List (Str × Str)} {tab : List (List Nat × List Nat)} (hm : X.mg x = some (.ref a)) (hk : ∀ q ∈ kvs, KDct X.K X.w a q.1 (.str q.2)) (he : CE cm X W m e) (ht : kvs = tab.map (fun q => ((⟨q.1.toArray⟩ : Str), (⟨q.2.toArray⟩ : Str))) := by decide +kernel) (hg : Gl X x := by rfl) (hd : (x == ("__debug__" : Str)) = false := by decide) (hs : PlainIx e := by exact fun _ _ => rfl) :
    CE cm X W (eTab tab m) (.Subscript (.Name x p) e pos) := PE.weak (pe_ix ix_kdict (pe_glob (v := .ref a) hg hm rfl hd) he hs) fun σ H Q ⟨B, ρ, st, G, R, h⟩ =>
  ⟨B, ρ, st, G, R, Out.bindR early_E R h fun q st1 H1 G1 v s1 R1 rx h1 => by
    obtain ⟨z, ez, h2⟩ := out_ofOpt h1
    cases rx with
    | @str s =>
      obtain ⟨y, ey, rfl⟩ := map_some (show (tabGet tab s).map PV.str = some z from ez)
      obtain ⟨pr, ep, rfl⟩ := map_some (show (tab.find? fun q => decide (q.1 = s)).map (·.2) = some y from ey)
      have hmem := List.mem_of_find?_eq_some ep
      have hk1 := of_decide_eq_true (show decide (pr.1 = s) = true by simpa using List.find?_some ep)
      have hq := hk (⟨pr.1.toArray⟩, ⟨pr.2.toArray⟩) (by rw [ht]; exact List.mem_map.mpr ⟨pr, hmem, rfl⟩)
      rw [hk1] at hq
      exact ⟨a, ⟨s.toArray⟩, .str ⟨pr.2.toArray⟩, rfl, rfl, hq, h2 H1 G1 _ (.refl G1 H1) R1.toSRel .str⟩
    | _ => cases ez⟩
/-! ### a display of texts, looked at at once -/
abbrev sv (z : List Nat) : V := .str ⟨z.toArray⟩
abbrev kvT (tab : List (List Nat × List Nat)) : List (Key × V) := tab.map fun q => (.inr ⟨q.1.toArray⟩, sv q.2)
theorem merge_fresh : ∀ (more kvs : List (Key × V)), (∀ p ∈ more, ∀ q ∈ kvs, q.1 ≠ p.1) → more.Pairwise (fun a b => a.1 ≠ b.1) → mergeK kvs more = kvs ++ more
  | [], kvs, _, _ => by simp [mergeK]
  | p :: more, kvs, h1, h2 => by
    have e : putK kvs p.1 p.2 = kvs ++ [p] := by
      unfold putK
      rw [if_neg]
      intro z
      obtain ⟨q, hq, hz⟩ := List.any_eq_true.mp z
      exact h1 p (List.mem_cons_self ..) q hq (of_decide_eq_true hz)
    show mergeK (putK kvs p.1 p.2) more = _
    rw [e, merge_fresh more (kvs ++ [p]) (fun a ha q hq => ?_) (List.pairwise_cons.mp h2).2]
    · simp
    · rcases List.mem_append.mp hq with hq | hq
      · exact h1 a (List.mem_cons_of_mem _ ha) q hq
      · rw [List.mem_singleton.mp hq]
        exact (List.pairwise_cons.mp h2).1 a ha
theorem str_iff {a b : List Nat} : ((⟨a.toArray⟩ : Str) = ⟨b.toArray⟩) ↔ a = b := by
  constructor
  · intro h
    injection h with h
    injection h
  · intro h
    rw [h]
theorem kvT_get (s : List Nat) : ∀ tab : List (List Nat × List Nat), valV (kvT tab) (.inr ⟨s.toArray⟩) = (tabGet tab s).map sv
  | [] => rfl
  | q :: tab => by
    by_cases e : q.1 = s
    · rw [show kvT (q :: tab) = (.inr ⟨q.1.toArray⟩, sv q.2) :: kvT tab from rfl, valV_pos (by rw [e])]
      simp [tabGet, e]
    · rw [show kvT (q :: tab) = (.inr ⟨q.1.toArray⟩, sv q.2) :: kvT tab from rfl, valV_neg (fun z => e (str_iff.mp (Sum.inr.inj z))), kvT_get s tab]
      simp [tabGet, e]
theorem pairs_const {Q : List (V × V) → Hp → Prop} {σ : L2.St} {H : Hp} : ∀ tab : List (List Nat × List Nat), (∀ ps, ps = tab.map (fun q => (sv q.1, sv q.2)) → Q ps H) → tPairs (tab.map fun q => (tC (sv q.1), tC (sv q.2))) σ H Q
  | [], h => h [] rfl
  | q :: tab, h => by
    show tPairs (tab.map fun q => (tC (sv q.1), tC (sv q.2))) σ H fun ps H3 => Q ((sv q.1, sv q.2) :: ps) H3
    exact pairs_const tab fun ps e => h _ (by rw [e]; rfl)
theorem pe_strL {s : List Nat} {y : Str} {j : Nat} (hx : y = ⟨s.toArray⟩ := by decide +kernel) : PE X (.Constant (.str y) j pos) (tC (sv s)) := by
  subst hx
  exact pe_str
theorem ce_dsp {k : Nat} {keys : List (Option Expr)} {values : List Expr} {tab : List (List Nat × List Nat)} (hr : Room k X.A) (h : PPs X p2 keys values (tab.map fun q => (tC (sv q.1), tC (sv q.2)))) (he : CE cm X W m e) (hall : keys.all (·.isSome) = true := by rfl) (hl : keys.length = values.length := by rfl) (h0 : keys ≠ [] := by decide)
    (h15 : keys.length ≤ 15 := by decide) (ht : tab.length ≤ 15 := by decide) (hnd : tab.Pairwise (fun a b => a.1 ≠ b.1) := by decide) (hs : NoSl e := by exact fun _ _ => rfl) : CE cm X W (eTab tab m) (.Subscript (.Dict keys values p2) e pos) :=
  PE.weak (pe_dget (by have := hr.units; omega) (pe_disp h hall hl h0 h15) he hs) fun σ H Q ⟨B, ρ, st, G, R, h⟩ d hd => by
    refine pairs_const tab fun ps eps => ⟨upd_same, kvT tab, ?_, by rw [List.length_map]; exact ht, ?_⟩
    · rw [eps, List.map_map]
      rfl
    · have em : mergeK [] (kvT tab) = kvT tab := by
        rw [merge_fresh (kvT tab) [] (fun _ _ _ hq => absurd hq List.not_mem_nil)]
        · rfl
        · rw [List.pairwise_map]
          exact hnd.imp fun hab z => hab (str_iff.mp (Sum.inr.inj z))
      rw [em]
      have eu : upd (upd H d (.dK [])) d (.dK (kvT tab)) = upd H d (.dK (kvT tab)) := by
        funext b
        by_cases eb : b = d
        · rw [eb, upd_same, upd_same]
        · rw [upd_ne eb, upd_ne eb, upd_ne eb]
      rw [eu]
      obtain ⟨S2, s2⟩ := R.toSRel.fresh (o := .dK (kvT tab)) hd
      have R2 := R.step s2 S2
      refine ⟨B, ρ, st, G, R2, ?_⟩
      have hL := Out.later early_E s2 h
      refine Out.bindR early_E R2 hL fun q st1 H1 G1 v s1 R1 rx h1 => ?_
      obtain ⟨z, ez, h2⟩ := out_ofOpt h1
      cases rx with
      | @str s =>
        obtain ⟨y, ey, rfl⟩ := map_some (show (tabGet tab s).map PV.str = some z from ez)
        have hd1 : H1 d = some (.dK (kvT tab)) := s1.keep _ _ upd_same (R.toSRel.notIo hd)
        exact ⟨d, sv y, rfl, by
          have := DGet.k (k := .inr ⟨s.toArray⟩) hd1
          rw [kvT_get, ey] at this
          exact this, h2 H1 G1 _ (.refl G1 H1) R1.toSRel .str⟩
      | _ => cases ez
end
end BR
set_option Elab.async false
set_option linter.all false
set_option maxRecDepth 100000
/-! BrN: the end: a law holds where its run answers True. -/
namespace BR
open PySem PySem.Spec PyProof.Rows L2
theorem end_walk {l : PySem.W.OpenLaw} {n k : Nat} {q : Program} {loose : List Str} {XP : (Str → Option Value) → Heap → Prop} {YP : World → Heap → Prop} {d : DefRec} {x : Str} (hn : l.most = some n) (hz : n ≤ sizeLine) (hdf : d.params.defaults = []) (hr : Room k callerA)
    (F : ∀ (w : World) (mg : Str → Option Value) (fo : Addr) (h : Heap), YP w h → h.Ns mainGlobals mg → mg d.name = some (.ref fo) → ∃ (K : PySem.W.Frag) (fd : FuncData) (sp : Sp), K.In h ∧ (∀ (s : Shared) (u : Value), BindsTo s fd ⟨[u], []⟩ [(x, u)]) ∧
      (∀ (H : Hp) (a : Addr) (ns : List Int), ns.length ≤ n → SqL K H a (ns.map V.int) → sp [.ref a] H (fun v _ => v = .bl true) fun _ _ _ => False) ∧ ∀ base : Heap, K.In base → base.Ns mainGlobals mg → FnOk l.prog w K mg base (L2.CX l.prog w) k fo fd [x] sp) :
    PySem.W.WalkO q loose XP YP l.row.toRowW d [] (fun f vs => PySem.call f vs) := by
  refine Att.attach_call hn hdf fun w s₀ s₁ mg mb fo o pm cd doc ad us ns Gt Yh ho hd hcd hmg hobj hints hlen hgen => ?_
  obtain ⟨K, fd, sp, inK, bnd, top, body⟩ := F w mg fo _ Yh Gt.T.g hmg
  refine law_call inK Gt.T.g Gt.T.b Gt.T.builtins Gt.T.nolimit hgen hobj hints (Nat.le_trans hlen hz) hr body bnd (fun H _ hS => top H ad ns hlen hS) fun H e s' z => ?_
  obtain ⟨_, _, _, _, _, _, _, _, _, _, _, _, z⟩ := z
  exact z
theorem sp_top {c : Cn} {run : List PV → Store → R SV} {H : Hp} {a : Addr} {ns : List Int} (hS : SqL c.K H a (ns.map V.int)) (h : ∃ st, run [.scr ns] [] = .ok (.val (.bl true)) st) : spF c run [.ref a] H (fun v _ => v = .bl true) fun _ _ _ => False := by
  obtain ⟨st, h⟩ := h
  refine ⟨[.scr ns], [], ⟨H, []⟩, ⟨fun _ _ e => e, fun i j b e => by simp at e, fun b hb => absurd hb List.not_mem_nil, rfl, fun i b o e => by simp at e⟩, .cons (.scr hS) .nil, ?_⟩
  rw [h]
  intro H' G' v s S rv
  cases (show RepV c G' v (.bl true) from rv)
  rfl
end BR
set_option Elab.async false
set_option linter.all false
set_option maxRecDepth 100000
/-! BrO: more walks. -/
namespace BR
open PySem PySem.Spec PyProof.Rows L2
section
variable {cm : Nat → Option Addr} {X : Cx} {W : WX} {pos p p2 : Pos} {m n : EM} {e it it2 tg : Expr} {x : Str}
theorem downInts_get (lo : Int) : ∀ (n i : Nat) (q : PV), (downInts lo n)[i]? = some q → i < n ∧ q = .int (lo + (i : Nat) * (-1))
  | 0, i, q, h => by cases h
  | n + 1, 0, q, h => by
    have h : some (PV.int lo) = some q := h
    cases h
    exact ⟨Nat.zero_lt_succ _, by simp⟩
  | n + 1, i + 1, q, h => by
    obtain ⟨h1, h2⟩ := downInts_get (lo - 1) n i q h
    exact ⟨Nat.succ_lt_succ h1, by rw [h2]; congr 1; omega⟩
theorem downInts_len (lo : Int) : ∀ n : Nat, (downInts lo n).length = n
  | 0 => rfl
  | n + 1 => by rw [downInts, List.length_cons, downInts_len]
theorem walks_rngD {c : Cn} {G : Gh} {lo : Int} {n : Nat} : Walks c (Itc lo (-1) n) (downInts lo n) G := fun i H G2 st x2 S2 => by
  refine ⟨fun q hq => ?_, fun hi => by rw [downInts_len] at hi; exact Nat.le_of_eq hi⟩
  obtain ⟨h1, rfl⟩ := downInts_get lo n i q hq
  exact ⟨h1, fun x H' ⟨e1, e2⟩ => by subst e1 e2; exact ⟨G2, .refl _ _, S2, .int⟩⟩
theorem ci_rngD {j : Nat} {p3 p4 : Pos} (hm : X.mg "range" = none) (h : CE cm X W m it) (h2 : CE cm X W n it2) (hg : Gl X "range" := by rfl)
    (hs : starEach [it, it2, .UnaryOp .USub (.Constant (.int 1) j p3) p4] X.env = (false, eval it X.env) :: starEach [it2, .UnaryOp .USub (.Constant (.int 1) j p3) p4] X.env := by rfl) (hpl : (backTo pos (starEach [it2, .UnaryOp .USub (.Constant (.int 1) j p3) p4] X.env)).any (·.1) = false := by rfl)
    (hs1 : starEach [it2, .UnaryOp .USub (.Constant (.int 1) j p3) p4] X.env = (false, eval it2 X.env) :: starEach [.UnaryOp .USub (.Constant (.int 1) j p3) p4] X.env := by rfl) (hs2 : starEach [.UnaryOp .USub (.Constant (.int 1) j p3) p4] X.env = (false, eval (.UnaryOp .USub (.Constant (.int 1) j p3) p4) X.env) :: starEach [] X.env := by rfl) :
    CI cm X W (wRngD m n) tg (.Call (.Name "range" p) [it, it2, .UnaryOp .USub (.Constant (.int 1) j p3) p4] [] pos) :=
  PI.weak (pi_range3 hg hm (pa_cons h (pa_cons h2 (pa_cons (pe_un un_neg pe_int) pa_nil hs2) hs1) hs) hs hpl) fun σ H R ⟨B, ρ, st, G, Rl, h⟩ =>
  ⟨B, ρ, st, G, Rl, Out.bindR early_I Rl h fun q st1 H1 G1 x s1 R1 rx h1 => ⟨B, ρ, st1, G1, R1, Out.bindR early_I R1 h1 fun r st2 H2 G2 y s2 R2 ry h2 => by
    cases rx with
    | @int i =>
      cases ry with
      | @int k =>
        have h2 : Out _ _ _ _ _ _ (BR.R.ofOpt (if big62 i && big62 k then some (downInts i (i - k).toNat) else none) st2) := h2
        by_cases hb : (big62 i && big62 k) = true
        · rw [if_pos hb] at h2
          obtain ⟨b1, b2⟩ := Bool.and_eq_true_iff.mp hb
          have b1' := of_decide_eq_true b1
          have b2' := of_decide_eq_true b2
          exact ⟨1, rfl, i, k, -1, (i - k).toNat, rfl, RgC.neg b1'.1 b1'.2 b2'.1 b2'.2, h2 H2 G2 _ (.refl G2 H2) R2.toSRel walks_rngD⟩
        · rw [if_neg hb] at h2
          exact h2.elim
      | _ => exact h2.elim
    | _ => cases ry <;> exact h2.elim⟩⟩
/-! ### zip -/
theorem zipPV_get {xs ys : List PV} {i : Nat} {q : PV} (h : (zipPV xs ys)[i]? = some q) : ∃ a b, xs[i]? = some a ∧ ys[i]? = some b ∧ q = .wt [a, b] := by
  unfold zipPV at h
  rw [List.getElem?_map] at h
  cases e : (xs.zip ys)[i]? with
  | none => rw [e] at h; cases h
  | some z =>
    rw [e] at h
    cases h
    obtain ⟨h1, h2⟩ := List.getElem?_zip_eq_some.mp e
    exact ⟨z.1, z.2, h1, h2, rfl⟩
theorem zipPV_len (xs ys : List PV) : (zipPV xs ys).length = min xs.length ys.length := by
  unfold zipPV
  rw [List.length_map, List.length_zip]
theorem walks_zipL {c : Cn} {G : Gh} {a b : Addr} {vs ws : List V} {xs ys : List PV} (ha : G.fz a = some (.lst vs)) (ra : RepVs c G vs xs) (hb : G.fz b = some (.lst ws)) (rb : RepVs c G ws ys) : Walks c (Itz c.K a b) (zipPV xs ys) G := fun i H G2 st x2 S2 => by
  have h1 : SqL c.K H a vs := SqL.of (S2.fzH _ _ (x2.fz _ _ ha))
  have h2 : SqL c.K H b ws := SqL.of (S2.fzH _ _ (x2.fz _ _ hb))
  refine ⟨fun q hq => ?_, fun hi => ⟨vs, ws, h1, h2, ?_⟩⟩
  · obtain ⟨u, w, hu, hw, rfl⟩ := zipPV_get hq
    obtain ⟨v1, e1, r1⟩ := ra.get hu
    obtain ⟨v2, e2, r2⟩ := rb.get hw
    refine ⟨⟨vs, ws, v1, v2, h1, h2, e1, e2⟩, fun x H' ⟨T, y1, y2, ex, hT, eH, k1, k2⟩ => ?_⟩
    subst ex eH
    have q1 := k1 vs h1
    rw [e1] at q1
    cases q1
    have q2 := k2 ws h2
    rw [e2] at q2
    cases q2
    obtain ⟨S3, s3⟩ := S2.freeze (o := .tup [v1, v2]) hT
    exact ⟨_, s3, S3, new_wt S2 hT (.cons (r1.up x2) (.cons (r2.up x2) .nil))⟩
  · rw [zipPV_len, ← ra.len, ← rb.len] at hi
    omega
theorem walks_zipT {c : Cn} {G : Gh} {a b : Addr} {vs ws : List V} {xs ys : List PV} (ha : TupN G.fz a vs) (ra : RepVs c G vs xs) (hb : TupN G.fz b ws) (rb : RepVs c G ws ys) : Walks c (RZ.ItzT c.K a b) (zipPV xs ys) G := fun i H G2 st x2 S2 => by
  have h1 : SqT c.K H a vs := S2.sqT (ha.up x2.fz)
  have h2 : SqT c.K H b ws := S2.sqT (hb.up x2.fz)
  refine ⟨fun q hq => ?_, fun hi => ⟨vs, ws, h1, h2, ?_⟩⟩
  · obtain ⟨u, w, hu, hw, rfl⟩ := zipPV_get hq
    obtain ⟨v1, e1, r1⟩ := ra.get hu
    obtain ⟨v2, e2, r2⟩ := rb.get hw
    refine ⟨⟨vs, ws, v1, v2, h1, h2, e1, e2⟩, fun x H' ⟨T, y1, y2, ex, hT, eH, k1, k2⟩ => ?_⟩
    subst ex eH
    have q1 := k1 vs h1
    rw [e1] at q1
    cases q1
    have q2 := k2 ws h2
    rw [e2] at q2
    cases q2
    obtain ⟨S3, s3⟩ := S2.freeze (o := .tup [v1, v2]) hT
    exact ⟨_, s3, S3, new_wt S2 hT (.cons (r1.up x2) (.cons (r2.up x2) .nil))⟩
  · rw [zipPV_len, ← ra.len, ← rb.len] at hi
    omega
theorem ci_zip {elts : List Expr} {kk : Nat} {tpos : Pos} (hm : X.mg "zip" = none) (h : CE cm X W m it) (h2 : CE cm X W n it2) (hg : Gl X "zip" := by rfl)
    (hs : starEach [it, it2] X.env = (false, eval it X.env) :: starEach [it2] X.env := by rfl) (hpl : (backTo pos (starEach [it2] X.env)).any (·.1) = false := by rfl) (hs1 : starEach [it2] X.env = (false, eval it2 X.env) :: starEach [] X.env := by rfl) :
    CI cm X W (wZip m n) (.Tuple elts kk tpos) (.Call (.Name "zip" p) [it, it2] [] pos) :=
  PI.weak (RZ.pi_zipA hg hm (pa_cons h (pa_cons h2 pa_nil hs1) hs) hs hpl) fun σ H R ⟨B, ρ, st, G, Rl, h⟩ =>
  ⟨B, ρ, st, G, Rl, Out.bindR early_I Rl h fun q st1 H1 G1 x s1 R1 rx h1 => ⟨B, ρ, st1, G1, R1, Out.bindR early_I R1 h1 fun r st2 H2 G2 y s2 R2 ry h2 => by
    have rx2 := rx.up s2.toGExt
    cases rx2 with
    | @lst a vs xs ha ra =>
      cases ry with
      | @lst b ws ys hb rb => exact ⟨a, b, vs, ws, rfl, .inl ⟨SqL.of (R2.lst ha), SqL.of (R2.lst hb), h2 H2 G2 _ (.refl G2 H2) R2.toSRel (walks_zipL ha ra hb rb)⟩⟩
      | _ => exact h2.elim
    | @tup a vs xs ha ra =>
      cases ry with
      | @tup b ws ys hb rb => exact ⟨a, b, vs, ws, rfl, .inr ⟨R2.sqT ha, R2.sqT hb, h2 H2 G2 _ (.refl G2 H2) R2.toSRel (walks_zipT ha ra hb rb)⟩⟩
      | _ => exact h2.elim
    | _ => cases ry <;> exact h2.elim⟩⟩
end
end BR
set_option Elab.async false
set_option linter.all false
set_option maxRecDepth 100000
set_option maxHeartbeats 2000000
/-! BrP: zip of two texts. -/
namespace BR
open PySem PySem.Spec PyProof.Rows L2 PySem.Builtin
/-! ### its making -/
abbrev tIt (x : Str) (t : Tok) : Obj := { cls := .type (strIterType x), data := .fields #[.str x t, .int 0 0] }
abbrev zA (h : Heap) (x : Str) (t : Tok) : Heap := h.push (tIt x t)
abbrev zB (h : Heap) (x y : Str) (t u : Tok) : Heap := (zA h x t).push (tIt y u)
abbrev zC (h : Heap) (x y : Str) (t u : Tok) : Heap := (zB h x y t u).push { cls := .type "tuple", data := .seq #[.ref h.objs.size, .ref (zA h x t).objs.size] }
abbrev zD (h : Heap) (x y : Str) (t u : Tok) : Heap := (zC h x y t u).push { cls := .type "tuple", data := .seq #[.none, .none] }
abbrev zE (h : Heap) (x y : Str) (t u : Tok) : Heap := (zD h x y t u).push { cls := .type "zip", data := .fields #[.none, .bool false, .bool false, .ref (zB h x y t u).objs.size, .ref (zC h x y t u).objs.size] }
theorem meets_zipS (x y : Str) (t u : Tok) : Meets (Builtin.«zip.__new__» ⟨[.type "zip", .str x t, .str y u], []⟩) (fun _ R s => R (.ok (.ret (.ref (zD s.heap x y t u).objs.size))) { s with heap := zE s.heap x y t u }) :=
  .of_wp fun prog w A R s h => by
    obtain ⟨hp, g, d, tk, os⟩ := s
    have hsub := sub_zip
    wp_walk using wpAny_pyIter_strU
    exact ⟨_, rfl, h⟩
section
variable {prog : Program} {w : World} {A : Around} {E : Value → Shared → Prop} {s : Shared}
theorem call_zipS {x y : Str} {t u : Tok} {Q : Value → Shared → Prop}
    (h : ∀ h', IsZip h' (s.heap.objs.size + 4) (s.heap.objs.size + 2) (s.heap.objs.size + 3) .none → IsTupOf2 h' (s.heap.objs.size + 2) (.ref s.heap.objs.size) (.ref (s.heap.objs.size + 1)) → IsTupOf2 h' (s.heap.objs.size + 3) .none .none →
      h'.IsStrIter s.heap.objs.size (strIterType x) x t 0 → h'.IsStrIter (s.heap.objs.size + 1) (strIterType y) y u 0 → (∀ c o, s.heap.get? c = some o → h'.get? c = some o) → Q (.ref (s.heap.objs.size + 4)) { s with heap := h' }) :
    wpAny (model prog w) A (call (.type "zip") [.str x t, .str y u]) Q E s := by
  refine callType_new F.called_zip (by decide) (F.typeCall_zip_2 _ _) (F.newCall_zip_2 _ _) (fun obj => F.args_object_init_3 obj _ _) F.entry_zip_new (meets_zipS x y t u) ?_
  have e1 : (zA s.heap x t).objs.size = s.heap.objs.size + 1 := Heap.size_push ..
  have e2 : (zB s.heap x y t u).objs.size = s.heap.objs.size + 2 := by rw [Heap.size_push, e1]
  have e3 : (zC s.heap x y t u).objs.size = s.heap.objs.size + 3 := by rw [Heap.size_push, e2]
  have e4 : (zD s.heap x y t u).objs.size = s.heap.objs.size + 4 := by rw [Heap.size_push, e3]
  have up1 : ∀ {b : Addr} {o : Obj}, (zD s.heap x y t u).get? b = some o → (zE s.heap x y t u).get? b = some o := fun q => Heap.get?_push_of_some _ q
  have up2 : ∀ {b : Addr} {o : Obj}, (zC s.heap x y t u).get? b = some o → (zE s.heap x y t u).get? b = some o := fun q => up1 (Heap.get?_push_of_some _ q)
  have up3 : ∀ {b : Addr} {o : Obj}, (zB s.heap x y t u).get? b = some o → (zE s.heap x y t u).get? b = some o := fun q => up2 (Heap.get?_push_of_some _ q)
  have up4 : ∀ {b : Addr} {o : Obj}, (zA s.heap x t).get? b = some o → (zE s.heap x y t u).get? b = some o := fun q => up3 (Heap.get?_push_of_some _ q)
  have k5 : (zE s.heap x y t u).get? (zD s.heap x y t u).objs.size = some _ := Heap.get?_push_size _ rfl
  have k4 : (zE s.heap x y t u).get? (zC s.heap x y t u).objs.size = some _ := up1 (Heap.get?_push_size _ rfl)
  have k3 : (zE s.heap x y t u).get? (zB s.heap x y t u).objs.size = some _ := up2 (Heap.get?_push_size _ rfl)
  have k2 : (zE s.heap x y t u).get? (zA s.heap x t).objs.size = some _ := up3 (Heap.get?_push_size _ rfl)
  have k1 : (zE s.heap x y t u).get? s.heap.objs.size = some _ := up4 (Heap.get?_push_size _ rfl)
  show _ ∧ _
  rw [e2, e3, e4] at k5
  rw [e1, e2] at k3
  rw [e3] at k4
  rw [e1] at k2
  rw [e4]
  exact ⟨⟨_, k5, rfl⟩, h _ k5 k3 k4 ⟨_, k1, rfl, rfl⟩ ⟨_, k2, rfl, rfl⟩ fun c o q => up4 (Heap.get?_push_of_some _ q)⟩
end
/-! ### its turns -/
theorem draws_str {prog : Program} {w : World} {A : Around} (hh : A.handled = none) (it : Addr) (x : Str) (t : Tok) : Draws prog w A it [it] x.cps.size (fun i v => ∃ c u, x.cps[i]? = some c ∧ v = .str ⟨#[c]⟩ u) (fun i h => h.IsStrIter it (strIterType x) x t i) := by
  unfold strIterType
  cases x.cps.all (· < 128) with
  | true => exact Draws.strAscii hh it x t
  | false => exact Draws.strWide hh it x t
def ItzS (x y : Str) : It := ⟨fun i _ => i < x.cps.size ∧ i < y.cps.size, fun i H v H' => ∃ T a b, v = .ref T ∧ H T = none ∧ H' = upd H T (.tup [.str ⟨#[a]⟩, .str ⟨#[b]⟩]) ∧ x.cps[i]? = some a ∧ y.cps[i]? = some b, fun i _ => i ≤ x.cps.size ∧ i ≤ y.cps.size ∧ (i = x.cps.size ∨ i = y.cps.size)⟩
theorem turn_zipS {P : Program} {w : World} {K : PySem.W.Frag} {elts : List Expr} {kk : Nat} {tpos : Pos} {z TI TO i1 i2 : Addr} {x y : Str} {t u : Tok} (D : ZipSep2 z TI TO i1 i2 [i1] [i2]) :
    Turn P w K (.Tuple elts kk tpos) (ItzS x y) [z, TI, TO, i1, i2] z (fun i h => IsZip h z TI TO .none ∧ IsTupOf2 h TI (.ref i1) (.ref i2) ∧ (∃ a b, IsTupOf2 h TO a b) ∧ h.IsStrIter i1 (strIterType x) x t i ∧ h.IsStrIter i2 (strIterType y) y u i) where
  mem := by simp
  obj := fun i h st c hc => by
    obtain ⟨hz, hTI, ⟨a, b, hTO⟩, ⟨o1, q1, _, d1⟩, ⟨o2, q2, _, d2⟩⟩ := st
    have hc : c = z ∨ c = TI ∨ c = TO ∨ c = i1 ∨ c = i2 := by simpa using hc
    rcases hc with e | e | e | e | e
    · rw [e]; exact ⟨_, hz, fun v k => nomatch k⟩
    · rw [e]; exact ⟨_, hTI, fun v k => nomatch k⟩
    · rw [e]; exact ⟨_, hTO, fun v k => nomatch k⟩
    · rw [e]; exact ⟨o1, q1, fun v k => by rw [d1] at k; cases k⟩
    · rw [e]; exact ⟨o2, q2, fun v k => by rw [d2] at k; cases k⟩
  keep := fun i h h' st k => by
    obtain ⟨hz, hTI, ⟨a, b, hTO⟩, ⟨o1, q1, r1⟩, ⟨o2, q2, r2⟩⟩ := st
    exact ⟨k z (by simp) _ hz, k TI (by simp) _ hTI, ⟨a, b, k TO (by simp) _ hTO⟩, ⟨o1, k i1 (by simp) _ q1, r1⟩, ⟨o2, k i2 (by simp) _ q2, r2⟩⟩
  item := by
    intro X eP ew eK hc i pins s σ H E I hf st hg
    subst eP ew eK
    obtain ⟨hz, hTI, ⟨a0, b0, hTO⟩, s1, s2⟩ := st
    have hh : X.A.in1.handled = none := I.ok.hd hc
    have lz : z < s.heap.objs.size := Heap.lt_size hz
    refine wpAny_pyNext_zipD2_item D (draws_str hh i1 x t) (draws_str hh i2 y u) hz hTI hTO s1 s2 hg.1 hg.2 fun v1 v2 h' tk p1 p2 hz' hTO' t1 t2 hT hsz hk => ?_
    obtain ⟨a, ta, ha, rfl⟩ := p1
    obtain ⟨b, tb, hb, rfl⟩ := p2
    refine ⟨_, rfl, wpAny_letOwnedTupleGo_zip (s := { s with heap := h', toks := tk }) hz' fun h'' hz'' sb => ?_⟩
    have hT2 : h''.get? s.heap.objs.size = some { cls := .type "tuple", data := .seq #[.str ⟨#[a]⟩ ta, .str ⟨#[b]⟩ tb] } := (sb.2 _ (Nat.ne_of_gt lz)).trans hT
    have nw : ObjOk X.prog X.w (upd H s.heap.objs.size (.tup [.str ⟨#[a]⟩, .str ⟨#[b]⟩])) h'' s.heap.objs.size (.tup [.str ⟨#[a]⟩, .str ⟨#[b]⟩]) :=
      ⟨by show 2 ≤ sizeLine; decide, [.str ⟨#[a]⟩ ta, .str ⟨#[b]⟩ tb], .cons ⟨_, rfl⟩ (.cons ⟨_, rfl⟩ .nil), ⟨_, hT2, rfl, _, rfl⟩⟩
    have J : Inv X pins σ (upd H s.heap.objs.size (.tup [.str ⟨#[a]⟩, .str ⟨#[b]⟩])) { s with heap := h'', toks := tk } :=
      I.turnedNew (ch := [z, TI, TO, i1, i2]) (fun c o nb q => (sb.2 c (fun e => nb (by simp [e]))).trans (hk c o (fun e => nb (by simp [e])) (fun e => nb (by simp [e])) (fun e => nb (by simp [e])) (fun e => nb (by simp [e])) q)) hf (Nat.le_refl _) nw
    refine ⟨.ref s.heap.objs.size, _, J, rfl, ⟨_, a, b, rfl, I.hok.fresh (Nat.le_refl _), rfl, ha, hb⟩, ⟨hz'', ?_, ⟨.str ⟨#[a]⟩ ta, .str ⟨#[b]⟩ tb, ?_⟩, ?_, ?_⟩, fun c hcm => ?_⟩
    · exact (sb.2 _ D.TIz).trans (hk _ _ D.TIz D.TITO D.TIi1 D.TIi2 hTI)
    · exact (sb.2 _ D.TOz).trans hTO'
    · obtain ⟨o, q, r⟩ := t1
      exact ⟨o, (sb.2 _ (Ne.symm D.zi1)).trans q, r⟩
    · obtain ⟨o, q, r⟩ := t2
      exact ⟨o, (sb.2 _ (Ne.symm D.zi2)).trans q, r⟩
    · have hlt : c < s.heap.objs.size := by
        have hcm : c = z ∨ c = TI ∨ c = TO ∨ c = i1 ∨ c = i2 := by simpa using hcm
        rcases hcm with e | e | e | e | e
        · rw [e]; exact lz
        · rw [e]; exact Heap.lt_size hTI
        · rw [e]; exact Heap.lt_size hTO
        · rw [e]; obtain ⟨_, q, _⟩ := s1; exact Heap.lt_size q
        · rw [e]; obtain ⟨_, q, _⟩ := s2; exact Heap.lt_size q
      rw [upd_ne (Nat.ne_of_lt hlt)]
      exact (hf c hcm).1
  done := by
    intro X eP ew eK hc i pins s σ H E I hf st hg
    subst eP ew eK
    obtain ⟨hz, hTI, ⟨a0, b0, hTO⟩, s1, s2⟩ := st
    have hh : X.A.in1.handled = none := I.ok.hd hc
    exact wpAny_pyNext_zipD2_end D (draws_str hh i1 x t) (draws_str hh i2 y u) hz hTI hTO s1 s2 hg.1 hg.2.1 hg.2.2 fun h' tk hk => ⟨rfl, I.turnedL (t' := tk) (ch := [z, TI, TO, i1, i2]) (fun c o nb q =>
      hk c o (fun e => nb (by simp [e])) (fun e => nb (by simp [e])) (fun e => nb (by simp [e])) (fun e => nb (by simp [e])) q) hf⟩
  self := fun A i s Q E st h => wpAny_pyIter_zip st.1 h
def iZipS (ta : TA) : TI := fun σ H R => ta σ H fun vs H1 => ∃ x y, vs = [.str x, .str y] ∧ R (ItzS x y) H1
theorem pi_zipS {X : Cx} {e e2 : Expr} {ta : TA} {p pos tpos : Pos} {elts : List Expr} {kk : Nat} (hg : Gl X "zip") (hm : X.mg "zip" = none) (ha : PA X [e, e2] ta) (hst : starEach [e, e2] X.env = (false, eval e X.env) :: starEach [e2] X.env) (hpl : (backTo pos (starEach [e2] X.env)).any (·.1) = false) :
    PI X (.Tuple elts kk tpos) (.Call (.Name "zip" p) [e, e2] [] pos) (iZipS ta) := ⟨fun pins s σ H R I h => by
  refine Call_ (ld_blt I hg hm PyProof.Rows.boot_zip (PyProof.Rows.callWith_type1 (thn (ha.run pos pins s σ H _ I h) fun us s1 hu => ?_) hst hpl))
  obtain ⟨vs, H1, I1, rv, x, y, rfl, q⟩ := hu
  obtain ⟨u1, u2, rfl, ⟨t, rfl⟩, ⟨u, rfl⟩⟩ := vals2 rv
  refine call_zipS fun h' hz hTI hTO k1 k2 up => wpAny_pyIter_zip hz ?_
  have I2 : Inv X pins σ H1 { s1 with heap := h' } := I1.kept (t' := s1.toks) up
  have ne : ∀ {a b : Nat}, a < b → s1.heap.objs.size + a ≠ s1.heap.objs.size + b := fun {a b} l e => by omega
  refine ⟨s1.heap.objs.size + 4, [s1.heap.objs.size + 4, s1.heap.objs.size + 2, s1.heap.objs.size + 3, s1.heap.objs.size, s1.heap.objs.size + 1], _, _, H1, rfl, I2, turn_zipS (x := x) (y := y) (t := t) (u := u) ⟨?_, ?_, ?_, ?_, ?_, ?_, ?_, ?_, ?_, ?_, ?_, ?_, ?_⟩, ⟨hz, hTI, ⟨_, _, hTO⟩, k1, k2⟩, fun c hc => ?_, q⟩
  all_goals first
    | (simp; done)
    | (simp; omega)
    | skip
  have hle : s1.heap.objs.size ≤ c := by
    have hc : c = s1.heap.objs.size + 4 ∨ c = s1.heap.objs.size + 2 ∨ c = s1.heap.objs.size + 3 ∨ c = s1.heap.objs.size ∨ c = s1.heap.objs.size + 1 := by simpa using hc
    rcases hc with e | e | e | e | e <;> rw [e] <;> first | exact Nat.le_add_right _ _ | exact Nat.le_refl _
  exact I1.fpOk hle (I1.hok.fresh hle)⟩
/-! ### zip of texts, of any two of a kind -/
def strItems (s : List Nat) : List PV := s.map fun k => .str [k]
def zipSOf : PV → PV → Option (List PV)
  | .str a, .str b => some (zipPV (strItems a) (strItems b))
  | _, _ => none
def wZipS (m n : EM) : AM := fun ρ st => (m ρ st).bind fun p st1 => (n ρ st1).bind fun q st2 => BR.R.ofOpt (zipSOf p q) st2
theorem strItems_get {s : List Nat} {i : Nat} {q : PV} (h : (strItems s)[i]? = some q) : ∃ k, s[i]? = some k ∧ q = .str [k] := by
  unfold strItems at h
  rw [List.getElem?_map] at h
  cases e : s[i]? with
  | none => rw [e] at h; cases h
  | some k => rw [e] at h; cases h; exact ⟨k, rfl, rfl⟩
theorem walks_zipS {c : Cn} {G : Gh} (a b : List Nat) : Walks c (ItzS ⟨a.toArray⟩ ⟨b.toArray⟩) (zipPV (strItems a) (strItems b)) G := fun i H G2 st x2 S2 => by
  have la : (strItems a).length = a.length := by unfold strItems; rw [List.length_map]
  have lb : (strItems b).length = b.length := by unfold strItems; rw [List.length_map]
  refine ⟨fun q hq => ?_, fun hi => ?_⟩
  · obtain ⟨u, w, hu, hw, rfl⟩ := zipPV_get hq
    obtain ⟨k, ek, rfl⟩ := strItems_get hu
    obtain ⟨l, el, rfl⟩ := strItems_get hw
    refine ⟨⟨?_, ?_⟩, fun x H' ⟨T, k', l', ex, hT, eH, f1, f2⟩ => ?_⟩
    · show i < a.toArray.size
      simpa using (List.getElem?_eq_some_iff.mp ek).1
    · show i < b.toArray.size
      simpa using (List.getElem?_eq_some_iff.mp el).1
    · subst ex eH
      have f1 : a.toArray[i]? = some k' := f1
      have f2 : b.toArray[i]? = some l' := f2
      rw [List.getElem?_toArray, ek] at f1
      rw [List.getElem?_toArray, el] at f2
      cases f1
      cases f2
      obtain ⟨S3, s3⟩ := S2.freeze (o := .tup [.str ⟨#[k]⟩, .str ⟨#[l]⟩]) hT
      exact ⟨_, s3, S3, new_wt S2 hT (.cons (.str (s := [k])) (.cons (.str (s := [l])) .nil))⟩
  · rw [zipPV_len, la, lb] at hi
    show i ≤ a.toArray.size ∧ i ≤ b.toArray.size ∧ (i = a.toArray.size ∨ i = b.toArray.size)
    simp only [List.size_toArray]
    omega
section
variable {cm : Nat → Option Addr} {X : Cx} {W : WX} {pos p tpos : Pos} {m n : EM} {it it2 : Expr} {elts : List Expr} {kk : Nat}
theorem ci_zipS (hm : X.mg "zip" = none) (h : CE cm X W m it) (h2 : CE cm X W n it2) (hg : Gl X "zip" := by rfl)
    (hs : starEach [it, it2] X.env = (false, eval it X.env) :: starEach [it2] X.env := by rfl) (hpl : (backTo pos (starEach [it2] X.env)).any (·.1) = false := by rfl) (hs1 : starEach [it2] X.env = (false, eval it2 X.env) :: starEach [] X.env := by rfl) :
    CI cm X W (wZipS m n) (.Tuple elts kk tpos) (.Call (.Name "zip" p) [it, it2] [] pos) :=
  PI.weak (pi_zipS hg hm (pa_cons h (pa_cons h2 pa_nil hs1) hs) hs hpl) fun σ H R ⟨B, ρ, st, G, Rl, h⟩ =>
  ⟨B, ρ, st, G, Rl, Out.bindR early_I Rl h fun q st1 H1 G1 x s1 R1 rx h1 => ⟨B, ρ, st1, G1, R1, Out.bindR early_I R1 h1 fun r st2 H2 G2 y s2 R2 ry h2 => by
    cases rx with
    | @str a =>
      cases ry with
      | @str b => exact ⟨_, _, rfl, h2 H2 G2 _ (.refl G2 H2) R2.toSRel (walks_zipS a b)⟩
      | _ => exact h2.elim
    | _ => cases ry <;> exact h2.elim⟩⟩
end
end BR
set_option Elab.async false
set_option linter.all false
set_option maxRecDepth 100000
set_option maxHeartbeats 2000000
/-! BrQ: enumerate of a tuple. -/
namespace BR
open PySem PySem.Spec PyProof.Rows L2 PySem.Builtin
open AutoSeq1 (wpAny_loadPart')
abbrev uIt (t : Addr) : Obj := { cls := .type "tuple_iterator", data := .fields #[.ref t, .int 0 0] }
abbrev eA (h : Heap) (t : Addr) : Heap := h.push (uIt t)
abbrev eB (h : Heap) (t : Addr) : Heap := (eA h t).push { cls := .type "enumerate", data := .fields #[.none, .bool false, .ref h.objs.size, rawInt 0, .none, .none] }
theorem meets_enumT (t : Addr) (items : Array Value) (n : Nat) (dc : Option Addr) (sl : Array (Option Value)) : Meets (Builtin.«enumerate.__new__» ⟨[.type "enumerate", .ref t], []⟩) (fun _ R s => s.heap.get? t = some { cls := .type "tuple", dict := dc, data := .seq items n, slots := sl } ∧
    R (.ok (.ret (.ref (eA s.heap t).objs.size))) { s with heap := eB s.heap t }) :=
  .of_wp fun prog w A R s h => by
    obtain ⟨hp, g, d, tk, os⟩ := s
    obtain ⟨ht, h⟩ := h
    have hsub := sub_enumerate
    have hT : Heap.IsTuple (Shared.heap ⟨hp, g, d, tk, os⟩) t items := ⟨_, ht, rfl, n, rfl⟩
    wp_walk using wpAny_loadPart' ht
    refine wpAny_stack_any fun st => wpAny_pure ?_
    split
    · rename_i c _ _ _ _ _
      cases (c == Value.type "enumerate")
      · wp_walk using wpAny_loadPart' ht, wpAny_pyIter_tuple hT
        exact ⟨_, rfl, h⟩
      · wp_walk using wpAny_loadPart' ht, wpAny_pyIter_tuple hT
        exact ⟨_, rfl, h⟩
    · wp_walk using wpAny_loadPart' ht, wpAny_pyIter_tuple hT
      exact ⟨_, rfl, h⟩
section
variable {prog : Program} {w : World} {A : Around} {E : Value → Shared → Prop} {s : Shared}
theorem call_enumT {t : Addr} {items : Array Value} {Q : Value → Shared → Prop} (hT : s.heap.IsTuple t items)
    (h : ∀ h', IsEnum h' (s.heap.objs.size + 1) s.heap.objs.size 0 .none → h'.IsTupleIter s.heap.objs.size t 0 → (∀ b o, s.heap.get? b = some o → h'.get? b = some o) → Q (.ref (s.heap.objs.size + 1)) { s with heap := h' }) :
    wpAny (model prog w) A (call (.type "enumerate") [.ref t]) Q E s := by
  obtain ⟨⟨c, dc, dt, sl⟩, ht, hc, n, hd⟩ := hT
  have hc : c = .type "tuple" := hc
  have hd : dt = .seq items n := hd
  subst hc hd
  refine callType_new F.called_enumerate (by decide) (F.typeCall_enumerate_1 _) (F.newCall_enumerate_1 _) (fun obj => F.args_object_init_2 obj _) F.entry_enumerate_new (meets_enumT t items n dc sl) ⟨ht, ?_⟩
  have e1 : (eA s.heap t).objs.size = s.heap.objs.size + 1 := Heap.size_push ..
  have k2 : (eB s.heap t).get? (eA s.heap t).objs.size = some _ := Heap.get?_push_size _ rfl
  have k1 : (eB s.heap t).get? s.heap.objs.size = some _ := Heap.get?_push_of_some _ (Heap.get?_push_size _ rfl)
  show _ ∧ _
  rw [e1] at k2 ⊢
  exact ⟨⟨_, k2, rfl⟩, h _ k2 ⟨_, k1, rfl, rfl⟩ fun b o q => Heap.get?_push_of_some _ (Heap.get?_push_of_some _ q)⟩
end
def IteT (K : PySem.W.Frag) (a : Addr) : It :=
  ⟨fun i H => ∃ (xs : List V) (x : V), SqT K H a xs ∧ xs[i]? = some x, fun i H v H' => ∃ T x, v = .ref T ∧ H T = none ∧ H' = upd H T (.tup [.int (i : Nat), x]) ∧ ∀ xs, SqT K H a xs → xs[i]? = some x, fun i H => ∃ xs : List V, SqT K H a xs ∧ xs.length = i⟩
theorem turn_enumT {P : Program} {w : World} {K : PySem.W.Frag} {elts : List Expr} {kk : Nat} {tpos : Pos} (a e it : Addr) (n1 : e ≠ it) (n2 : e ≠ a) (n3 : a ≠ it) :
    Turn P w K (.Tuple elts kk tpos) (IteT K a) [e, it] e (fun i h => (∃ old, IsEnum h e it ((i : Nat) : Int) old) ∧ h.IsTupleIter it a i) where
  mem := by simp
  obj := fun i h st b hb => by
    obtain ⟨⟨old, he⟩, ⟨o, ho, hc, hd⟩⟩ := st
    have hb : b = e ∨ b = it := by simpa using hb
    rcases hb with z | z
    · rw [z]; exact ⟨_, he, fun v q => nomatch q⟩
    · rw [z]; exact ⟨o, ho, fun v q => by rw [hd] at q; cases q⟩
  keep := fun i h h' st k => by
    obtain ⟨⟨old, he⟩, hi⟩ := st
    exact ⟨⟨old, k e (by simp) _ he⟩, hi.at fun o q => k it (by simp) o q⟩
  item := by
    intro X eP ew eK hc i pins s σ H E I hf st hg
    subst eP ew eK
    obtain ⟨⟨old, he⟩, hit⟩ := st
    obtain ⟨xs, x, hq, hx⟩ := hg
    obtain ⟨its, rv, p, hz⟩ := I.tuple hq
    obtain ⟨u, hu, ru⟩ := rv.get hx
    have hh : X.A.in1.handled = none := I.ok.hd hc
    have le : e < s.heap.objs.size := Heap.lt_size he
    have li : it < s.heap.objs.size := by
      obtain ⟨_, q, _⟩ := hit
      exact Heap.lt_size q
    have hT : s.heap.IsTuple a its.toArray := p
    have hlt : i < its.toArray.size := by
      have := (List.getElem?_eq_some_iff.mp hu).1
      simpa using this
    refine wpAny_pyNext_enum_itemD (Draws.tuple hh it a n3 its.toArray) he ⟨hit, hT⟩ hlt n1 (by simp [n1, n2]) fun u' h' tk pu ho st' hTn hsz hk => ?_
    have eu : u' = u := by
      have z : its.toArray[i]? = some u' := pu
      rw [List.getElem?_toArray, hu] at z
      exact (Option.some.inj z).symm
    subst eu
    refine ⟨_, rfl, wpAny_letOwnedTupleGo_enum (s := { s with heap := h', toks := tk + 1 }) ho fun h'' he'' sb => ?_⟩
    have hT2 : h''.get? s.heap.objs.size = some { cls := .type "tuple", data := .seq #[.int i tk, u'] } := (sb.2 _ (Nat.ne_of_gt le)).trans hTn
    have nw : ObjOk X.prog X.w (upd H s.heap.objs.size (.tup [.int (i : Nat), x])) h'' s.heap.objs.size (.tup [.int (i : Nat), x]) :=
      ⟨by show 2 ≤ sizeLine; decide, [.int i tk, u'], .cons ⟨_, rfl⟩ (.cons ru .nil), ⟨_, hT2, rfl, _, rfl⟩⟩
    have J : Inv X pins σ (upd H s.heap.objs.size (.tup [.int (i : Nat), x])) { s with heap := h'', toks := tk + 1 } :=
      I.turnedNew (ch := [e, it]) (fun b ob hb q => (sb.2 b (fun z => hb (by simp [z]))).trans (hk b ob (fun z => hb (by simp [z])) (fun z => hb (by simp [z])) q)) hf (Nat.le_refl _) nw
    refine ⟨.ref s.heap.objs.size, _, J, rfl, ⟨_, x, rfl, I.hok.fresh (Nat.le_refl _), rfl, fun ys hy => by rw [I.tuple_inj hy hq]; exact hx⟩, ⟨⟨u', ?_⟩, st'.1.at fun o q => (sb.2 it (Ne.symm n1)).trans q⟩, fun b hb => ?_⟩
    · have e1 : ((i + 1 : Nat) : Int) = (i : Int) + 1 := by omega
      rw [e1]
      exact he''
    · have hb' : b < s.heap.objs.size := by
        have hb : b = e ∨ b = it := by simpa using hb
        rcases hb with z | z
        · rw [z]; exact le
        · rw [z]; exact li
      rw [upd_ne (Nat.ne_of_lt hb')]
      exact (hf b hb).1
  done := by
    intro X eP ew eK hc i pins s σ H E I hf st hg
    subst eP ew eK
    obtain ⟨⟨old, he⟩, hit⟩ := st
    obtain ⟨xs, hq, hx⟩ := hg
    obtain ⟨its, rv, p, hz⟩ := I.tuple hq
    have hh : X.A.in1.handled = none := I.ok.hd hc
    have hT : s.heap.IsTuple a its.toArray := p
    have hl := rv.length
    have ei : i = its.toArray.size := by simp; omega
    obtain ⟨f0, f1, f2, f3, f4, f5⟩ := hf it (by simp)
    exact wpAny_pyNext_enum_endD (Draws.tuple hh it a n3 its.toArray) he ⟨by rw [← ei]; exact hit, hT⟩ fun h' eb => ⟨rfl, I.turned (t' := s.toks) (fun b o hb q => eb b o hb q) f0 f1 f3 f4 f5⟩
  self := fun A i s Q E st h => wpAny_pyIter_enum st.1.choose_spec h
def iEnumT (K : PySem.W.Frag) (ta : TA) : TI := fun σ H R => ta σ H fun vs H1 => ∃ a xs, vs = [.ref a] ∧ SqT K H1 a xs ∧ R (IteT K a) H1
theorem pi_enumT {X : Cx} {e : Expr} {ta : TA} {p pos tpos : Pos} {elts : List Expr} {kk : Nat} (hg : Gl X "enumerate") (hm : X.mg "enumerate" = none) (ha : PA X [e] ta) (hst : starEach [e] X.env = [(false, eval e X.env)]) :
    PI X (.Tuple elts kk tpos) (.Call (.Name "enumerate" p) [e] [] pos) (iEnumT X.K ta) := ⟨fun pins s σ H R I h => by
  refine Call_ (ld_blt I hg hm boot_enumerate (PyProof.Rows.callWith_type1 (thn (ha.run pos pins s σ H _ I h) fun us s1 hu => ?_) hst rfl))
  obtain ⟨vs, H1, I1, rv, a, xs, rfl, hq, q⟩ := hu
  obtain ⟨u, rfl, r1⟩ := vals1 rv
  cases r1
  obtain ⟨its, rt, pt, _⟩ := I1.tuple hq
  have hT : s1.heap.IsTuple a its.toArray := pt
  have la : a < s1.heap.objs.size := by
    obtain ⟨o, ho, _⟩ := id hT
    exact Heap.lt_size ho
  refine call_enumT hT fun h' he hit up => wpAny_pyIter_enum he ?_
  have I2 : Inv X pins σ H1 { s1 with heap := h' } := I1.kept (t' := s1.toks) up
  refine ⟨s1.heap.objs.size + 1, [s1.heap.objs.size + 1, s1.heap.objs.size], _, _, H1, rfl, I2, turn_enumT a (s1.heap.objs.size + 1) s1.heap.objs.size (Nat.succ_ne_self _) (Nat.ne_of_gt (Nat.lt_succ_of_lt la)) (Nat.ne_of_lt la), ⟨⟨_, he⟩, hit⟩, fun c hc => ?_, q⟩
  have hle : s1.heap.objs.size ≤ c := by
    have hc : c = s1.heap.objs.size + 1 ∨ c = s1.heap.objs.size := by simpa using hc
    rcases hc with z | z <;> rw [z] <;> first | exact Nat.le_add_right _ _ | exact Nat.le_refl _
  exact I1.fpOk hle (I1.hok.fresh hle)⟩
/-! ### the reading -/
def enumPV (k : Nat) : List PV → List PV
  | [] => []
  | x :: xs => .wt [.int k, x] :: enumPV (k + 1) xs
theorem enumPV_get : ∀ (xs : List PV) (k i : Nat) (q : PV), (enumPV k xs)[i]? = some q → ∃ x, xs[i]? = some x ∧ q = .wt [.int ((k + i : Nat) : Int), x]
  | [], _, _, _, h => by cases h
  | x :: xs, k, 0, q, h => by
    cases (show some (PV.wt [.int k, x]) = some q from h)
    exact ⟨x, rfl, rfl⟩
  | x :: xs, k, i + 1, q, h => by
    obtain ⟨y, h1, h2⟩ := enumPV_get xs (k + 1) i q h
    exact ⟨y, h1, by rw [h2, show k + 1 + i = k + (i + 1) by omega]⟩
theorem enumPV_len : ∀ (xs : List PV) (k : Nat), (enumPV k xs).length = xs.length
  | [], _ => rfl
  | x :: xs, k => by rw [enumPV, List.length_cons, List.length_cons, enumPV_len]
def wEnumT (m : EM) : AM := fun ρ st => (m ρ st).bind fun p st1 => match p with
  | .tup xs => .ok (enumPV 0 xs) st1
  | _ => .bad
theorem walks_enumT {c : Cn} {G : Gh} {a : Addr} {vs : List V} {xs : List PV} (ha : TupN G.fz a vs) (ra : RepVs c G vs xs) : Walks c (IteT c.K a) (enumPV 0 xs) G := fun i H G2 st x2 S2 => by
  have h1 : SqT c.K H a vs := S2.sqT (ha.up x2.fz)
  refine ⟨fun q hq => ?_, fun hi => ⟨vs, h1, by rw [ra.len, ← hi, enumPV_len]⟩⟩
  obtain ⟨u, hu, rfl⟩ := enumPV_get xs 0 i q hq
  obtain ⟨v1, e1, r1⟩ := ra.get hu
  refine ⟨⟨vs, v1, h1, e1⟩, fun x H' ⟨T, y1, ex, hT, eH, k1⟩ => ?_⟩
  subst ex eH
  have q1 := k1 vs h1
  rw [e1] at q1
  cases q1
  obtain ⟨S3, s3⟩ := S2.freeze (o := .tup [.int (i : Nat), v1]) hT
  rw [Nat.zero_add]
  exact ⟨_, s3, S3, new_wt S2 hT (.cons .int (.cons (r1.up x2) .nil))⟩
section
variable {cm : Nat → Option Addr} {X : Cx} {W : WX} {pos p tpos : Pos} {m n : EM} {it : Expr} {elts : List Expr} {kk : Nat}
theorem ci_enumT (hm : X.mg "enumerate" = none) (h : CE cm X W m it) (hg : Gl X "enumerate" := by rfl)
    (hs : starEach [it] X.env = [(false, eval it X.env)] := by rfl) (hs1 : starEach [it] X.env = (false, eval it X.env) :: starEach [] X.env := by rfl) :
    CI cm X W (wEnumT m) (.Tuple elts kk tpos) (.Call (.Name "enumerate" p) [it] [] pos) :=
  PI.weak (pi_enumT hg hm (pa_cons h pa_nil hs1) hs) fun σ H R ⟨B, ρ, st, G, Rl, h⟩ =>
  ⟨B, ρ, st, G, Rl, Out.bindR early_I Rl h fun q st1 H1 G1 x s1 R1 rx h1 => by
    cases rx with
    | @tup a vs xs ha ra => exact ⟨a, vs, rfl, R1.sqT ha, h1 H1 G1 _ (.refl G1 H1) R1.toSRel (walks_enumT ha ra)⟩
    | _ => exact h1.elim⟩
end
end BR
set_option Elab.async false
set_option linter.all false
set_option maxRecDepth 100000
set_option maxHeartbeats 2000000
/-! BrR: sorted, of pairs of an int and a text. -/
namespace BR
open PySem PySem.Spec PyProof.Rows L2
/-- before: by the number, then by the text -/
def lexS (p q : Int × Str) : Bool := if p.1 = q.1 then decide (p.2.cps.toList < q.2.cps.toList) else decide (p.1 < q.1)
theorem lexS_iff {p q : Int × Str} : lexS p q = true ↔ p.1 < q.1 ∨ (p.1 = q.1 ∧ p.2.cps.toList < q.2.cps.toList) := by
  unfold lexS
  by_cases e : p.1 = q.1
  · rw [if_pos e, decide_eq_true_eq]
    constructor
    · exact fun h => .inr ⟨e, h⟩
    · rintro (h | h)
      · omega
      · exact h.2
  · rw [if_neg e, decide_eq_true_eq]
    constructor
    · exact .inl
    · rintro (h | h)
      · exact h
      · exact absurd h.1 e
theorem lexS_no {p q : Int × Str} : lexS p q = false ↔ ¬ (p.1 < q.1 ∨ (p.1 = q.1 ∧ p.2.cps.toList < q.2.cps.toList)) := by
  rw [← lexS_iff]
  cases lexS p q <;> simp
theorem swo_lexS {α : Type} (k : α → Int × Str) : SrtO.Swo fun v u => lexS (k v) (k u) := by
  refine ⟨fun x y h => ?_, fun x y z h1 h2 => ?_⟩
  · refine lexS_no.mpr ?_
    rcases lexS_iff.mp h with a | ⟨a, b⟩
    · rintro (c | ⟨c, _⟩) <;> omega
    · rintro (c | ⟨_, c⟩)
      · omega
      · exact absurd (List.lt_trans b c) (List.lt_irrefl _)
  · refine lexS_no.mpr ?_
    have a := lexS_no.mp h1
    have b := lexS_no.mp h2
    rintro (c | ⟨c, d⟩)
    · by_cases e : (k z).1 < (k y).1
      · exact b (.inl e)
      · exact a (.inl (by omega))
    · have e1 : ¬ (k z).1 < (k y).1 := fun e => b (.inl e)
      have e2 : ¬ (k y).1 < (k x).1 := fun e => a (.inl e)
      have e3 : (k z).1 = (k y).1 := by omega
      have e4 : (k y).1 = (k x).1 := by omega
      have l1 : ¬ (k z).2.cps.toList < (k y).2.cps.toList := fun l => b (.inr ⟨e3, l⟩)
      have l2 : ¬ (k y).2.cps.toList < (k x).2.cps.toList := fun l => a (.inr ⟨e4, l⟩)
      exact absurd d (List.not_lt.mpr (List.le_trans (List.not_lt.mp l2) (List.not_lt.mp l1)))
def PairS (h : Heap) (v : Value) (x : Int) (y : Str) : Prop := ∃ a o t u n, v = .ref a ∧ h.get? a = some o ∧ o.cls = .type "tuple" ∧ o.data = .seq #[.int x t, .str y u] n
theorem PairS.keeps {h h' : Heap} {v : Value} {x : Int} {y : Str} (p : PairS h v x y) (k : ∀ b o, h.get? b = some o → o.cls = .type "tuple" → h'.get? b = some o) : PairS h' v x y := by
  obtain ⟨a, o, t, u, n, e, ho, hc, hd⟩ := p
  exact ⟨a, o, t, u, n, e, k _ _ ho hc, hc, hd⟩
theorem firsts_S {h : Heap} : ∀ {vs : List Value}, (∀ v ∈ vs, ∃ x y, PairS h v x y) → ∃ fs : List Value, PySem.W.KatTups h vs fs ∧ fs.length = vs.length ∧ ∀ f ∈ fs, ∃ x t, f = Value.int x t
  | [], _ => ⟨[], PySem.W.KatTups.nil, rfl, fun _ hm => absurd hm List.not_mem_nil⟩
  | v :: vs, hp => by
    obtain ⟨fs, h1, h2, h3⟩ := firsts_S (vs := vs) fun w hm => hp w (List.mem_cons_of_mem _ hm)
    obtain ⟨x, y, a, o, t, u, n, rfl, ho, hc, hd⟩ := hp v (List.mem_cons_self ..)
    refine ⟨.int x t :: fs, PySem.W.KatTups.cons ho hc hd rfl h1, by simp [h2], fun f hm => ?_⟩
    rcases List.mem_cons.mp hm with e | hm
    · exact ⟨x, t, e⟩
    · exact h3 f hm
section
variable {prog : Program} {w : World} {A : Around} {E : Value → Shared → Prop} {s : Shared}
theorem cmp_S {vs : List Value} {k : Value → Int × Str} (hp : ∀ v ∈ vs, PairS s.heap v (k v).1 (k v).2) : SrtO.Cmp prog w A s (tuples' true) (fun p => p.1 ∈ vs) (SrtO.lt2 fun v u => lexS (k v) (k u)) := by
  intro p q hm hm'
  have h1 := hp _ hm
  have h2 := hp _ hm'
  show wpAny (model prog w) A (keyLt' (tuples' true) p.1 q.1) (fun r s' => s' = s ∧ r = lexS (k p.1) (k q.1)) (fun _ _ => False) s
  unfold lexS
  generalize (k p.1).1 = x at h1 ⊢
  generalize (k p.1).2 = y at h1 ⊢
  generalize (k q.1).1 = x' at h2 ⊢
  generalize (k q.1).2 = y' at h2 ⊢
  obtain ⟨a, o, t, u, n, e, ho, hc, hd⟩ := h1
  obtain ⟨a', o', t', u', n', e', ho', hc', hd'⟩ := h2
  rw [e, e']
  refine PySem.W.kat_lt ho hd ho' hd' ?_
  show PySem.W.KatLex prog w A true (decide (2 < 2)) _ [(.int x t, .int x' t'), (.str y u, .str y' u')] 0 s
  refine PySem.W.kat_cons (SeqAt.EqAt.int_int x t x' t' prog w _ _ (PySem.W.kat_go (fun e1 => ?_) fun e1 => ?_))
  · have ex : x = x' := by simpa using e1
    refine PySem.W.kat_yes (PySem.W.kat_cons (SeqAt.EqAt.str_str y u y' u' prog w _ _ (PySem.W.kat_go (fun e2 => ?_) fun e2 => ?_)))
    · have ey : y = y' := by simpa using e2
      refine PySem.W.kat_yes (PySem.W.kat_nil ⟨rfl, ?_⟩)
      rw [if_pos ex, ey]
      exact (decide_eq_false (List.lt_irrefl _)).symm
    · refine PySem.W.kat_no (PySem.W.kat_one _ _ (PyProof.Rows.lt_str ?_))
      exact (show s = s ∧ decide (y.cps.toList < y'.cps.toList) = (if x = x' then decide (y.cps.toList < y'.cps.toList) else decide (x < x')) from ⟨rfl, by rw [if_pos ex]⟩)
  · have ex : ¬ x = x' := by simpa using e1
    exact PySem.W.kat_no (oneLt_int ⟨rfl, by rw [if_neg ex]⟩)
theorem sortable_S {a : Addr} {vs : List Value} {k : Value → Int × Str} (h0 : 0 < vs.length) (hp : ∀ v ∈ vs, PairS s.heap v (k v).1 (k v).2) (ha : ∀ o, s.heap.get? a = some o → o.cls ≠ .type "tuple") : SrtO.SortableO prog w A s a vs fun v u => lexS (k v) (k u) := by
  intro h' keep
  have hp' : ∀ v ∈ vs, PairS h' v (k v).1 (k v).2 := fun v hm => (hp v hm).keeps fun b o e c => keep b o (fun z => ha o (z ▸ e) c) e
  obtain ⟨fs, h1, h2, h3⟩ := firsts_S fun v hm => ⟨_, _, hp' v hm⟩
  refine ⟨tuples' true, fun Q E hq => PySem.W.kat_kind (T := .type "int") h1 (by omega) (fun f hm => ?_) (by rfl) ?_, cmp_S hp'⟩
  · obtain ⟨x, t, rfl⟩ := h3 f hm
    exact PySem.W.Looks.now
  · rw [show (Value.type "int" != Value.type "tuple") = true by first | decide +kernel | rfl | decide]
    exact hq
end
abbrev ltS (k : V → Int × Str) (x y : V) : Bool := lexS (k x) (k y)
/-- x stands for the pair -/
def IsIS (K : PySem.W.Frag) (H : Hp) (x : V) (q : Int × Str) : Prop := ∃ t, x = V.ref t ∧ SqT K H t [.int q.1, .str q.2]
/-- sorted(xs), xs a list of pairs of an int and a text -/
def rSortedIS (K : PySem.W.Frag) : List V → Hp → VK → Prop := fun vs H Q => ∃ (a : Addr) (xs : List V) (ks : List (Int × Str)), vs = [V.ref a] ∧ SqL K H a xs ∧ Paired (IsIS K H) xs ks ∧
  ∀ k : V → Int × Str, xs.map k = ks → ∀ ys p, SrtO.Srtd (ltS k) ys → SrtO.Stb (ltS k) ys xs → H p = none → Q (.ref p) (upd H p (.lst ys))
theorem paired_fun {α β : Type} {r : α → β → Prop} [Inhabited β] (un : ∀ x a b, r x a → r x b → a = b) {xs : List α} {ks : List β} (h : Paired r xs ks) : ∃ k : α → β, xs.map k = ks ∧ ∀ x ∈ xs, r x (k x) := by
  classical
  refine ⟨fun x => if h : ∃ b, r x b then h.choose else default, ?_⟩
  have key : ∀ x b, r x b → (if h : ∃ b, r x b then h.choose else default) = b := fun x b hb => by
    have hx : ∃ b, r x b := ⟨b, hb⟩
    rw [dif_pos hx]
    exact un x _ _ hx.choose_spec hb
  induction h with
  | nil => exact ⟨rfl, fun x hx => absurd hx List.not_mem_nil⟩
  | cons h t ih =>
    obtain ⟨i1, i2⟩ := ih
    refine ⟨by rw [List.map_cons, key _ _ h, i1], fun x hx => ?_⟩
    rcases List.mem_cons.mp hx with e | hx
    · subst e
      show r x (if h : ∃ b, r x b then h.choose else default)
      rw [key _ _ h]
      exact h
    · exact i2 x hx
theorem cr_sortedIS {X : Cx} : CallR X (.builtin "sorted") (rSortedIS X.K) := by
  intro pins s σ H vs us Q I r h
  obtain ⟨a, xs, ks, rfl, hs, hks, q⟩ := h
  obtain ⟨k, ek, hx⟩ := paired_fun (r := IsIS X.K H) (fun x p1 p2 h1 h2 => by
    obtain ⟨t1, rfl, q1⟩ := h1
    obtain ⟨t2, e, q2⟩ := h2
    cases e
    have z := I.tuple_inj q1 q2
    simp only [List.cons.injEq, V.int.injEq, V.str.injEq, and_true] at z
    exact Prod.ext z.1 z.2) hks
  have q := q k ek
  obtain ⟨its, rv, hl, hz⟩ := I.list hs
  obtain ⟨u, rfl, ru⟩ := vals1 r
  obtain rfl : u = Value.ref a := ru
  obtain ⟨e1, e2⟩ := refs_back rv fun x m => ⟨(hx x m).choose, (hx x m).choose_spec.1⟩
  have hp : ∀ v ∈ its, PairS s.heap v (k (backV v)).1 (k (backV v)).2 := fun v hv => by
    obtain ⟨t, rfl⟩ := e2 v hv
    have hm : V.ref t ∈ xs := by rw [e1]; exact List.mem_map.mpr ⟨_, hv, rfl⟩
    obtain ⟨t', e, ht⟩ := hx _ hm
    cases e
    obtain ⟨its2, r2, pt, _⟩ := I.tuple ht
    have pt : s.heap.IsTuple t its2.toArray := pt
    obtain ⟨o, ho, hc, n, hd⟩ := pt
    obtain ⟨u1, u2, rfl, ⟨t1, rfl⟩, ⟨t2, rfl⟩⟩ := vals2 r2
    exact ⟨t, o, t1, t2, n, rfl, ho, hc, hd⟩
  refine SrtO.sorted_ord (swo_lexS fun u => k (backV u)) hl.isList (by rw [← rv.length]; exact hz) (fun h2 h₁ b hb kk => ?_) fun out h1 h2 => ?_
  · refine sortable_S (s := { s with heap := h₁ }) (by omega) (fun v hv => (hp v hv).keeps fun c o e _ => (kk c o e).2) fun o e => ?_
    have z : some o = some (seqObj "list" its.toArray 0) := e.symm.trans hb
    cases z
    exact fun c => absurd (Value.type.inj c) (by decide)
  · have h3 : ∀ u ∈ out, ∃ a, u = Value.ref a := fun u hu => e2 u (h2.perm.mem_iff.mp hu)
    obtain ⟨n, hn⟩ := sortedAll_at s.heap its out.toArray
    have hb : SrtO.Stb (ltS k) (out.map backV) xs := by
      rw [e1]
      exact SrtO.Stb.map (swo_lexS k) backV h2
    refine ⟨.ref _, upd H _ (.lst (out.map backV)), I.laid (t' := s.toks) (fun b o e => sortedAll_old e) (Nat.le_succ _) ⟨?_, out, n, vals_back h3, hn⟩, rfl, q _ _ (SrtO.srtd_map h1) hb (I.hok.fresh (Nat.le_succ _))⟩
    rw [hb.len]
    exact hz
/-! ### insertion is sorted and stable -/
section
variable {α : Type} {lt : α → α → Bool}
theorem ins_perm (x : α) : ∀ l : List α, (insBy lt x l).Perm (x :: l)
  | [] => List.Perm.refl _
  | y :: ys => by
    unfold insBy
    cases lt y x with
    | true => exact ((ins_perm x ys).cons y).trans (List.Perm.swap x y ys)
    | false => exact List.Perm.refl _
theorem ins_srtd (O : SrtO.Swo lt) (x : α) : ∀ l : List α, SrtO.Srtd lt l → SrtO.Srtd lt (insBy lt x l)
  | [], _ => SrtO.srtd_one x
  | y :: ys, h => by
    unfold insBy
    cases e : lt y x with
    | true =>
      simp only [if_true]
      refine List.pairwise_cons.mpr ⟨fun z hz => ?_, ins_srtd O x ys (List.pairwise_cons.mp h).2⟩
      rcases List.mem_cons.mp ((ins_perm x ys).mem_iff.mp hz) with rfl | hz
      · exact O.asym _ _ e
      · exact (List.pairwise_cons.mp h).1 z hz
    | false =>
      simp only [Bool.false_eq_true, if_false]
      refine List.pairwise_cons.mpr ⟨fun z hz => ?_, h⟩
      rcases List.mem_cons.mp hz with rfl | hz
      · exact e
      · exact O.tr _ _ _ e ((List.pairwise_cons.mp h).1 z hz)
theorem ins_stb (O : SrtO.Swo lt) (x : α) : ∀ l : List α, SrtO.Stb lt (insBy lt x l) (x :: l)
  | [] => SrtO.Stb.refl _
  | y :: ys => by
    unfold insBy
    cases e : lt y x with
    | true =>
      simp only [if_true]
      refine ⟨((ins_perm x ys).cons y).trans (List.Perm.swap x y ys), fun z => ?_⟩
      have c := (ins_stb O x ys).cls z
      simp only [List.filter_cons] at c ⊢
      cases hy : SrtO.eqv lt z y with
      | false =>
        simp only [Bool.false_eq_true, if_false]
        exact c
      | true =>
        have hx : SrtO.eqv lt z x = false := by
          cases q : SrtO.eqv lt z x with
          | false => rfl
          | true =>
            obtain ⟨a1, a2⟩ := SrtO.eqv_iff.mp hy
            obtain ⟨b1, b2⟩ := SrtO.eqv_iff.mp q
            have w := O.tr x z y b1 a2
            rw [e] at w
            cases w
        simp only [hx, Bool.false_eq_true, if_false] at c ⊢
        rw [c]
    | false => exact SrtO.Stb.refl _
theorem isort_ok (O : SrtO.Swo lt) : ∀ l : List α, SrtO.Srtd lt (isort lt l) ∧ SrtO.Stb lt (isort lt l) l
  | [] => ⟨List.Pairwise.nil, SrtO.Stb.refl _⟩
  | x :: xs => by
    obtain ⟨h1, h2⟩ := isort_ok O xs
    refine ⟨ins_srtd O x _ h1, (ins_stb O x _).trans ?_⟩
    exact SrtO.Stb.app (SrtO.Stb.refl [x]) h2
end
abbrev mkIS (p : Int × List Nat) : PV := .tup [.int p.1, .str p.2]
abbrev kyIS (p : Int × List Nat) : Int × Str := (p.1, ⟨p.2.toArray⟩)
theorem lexS_ky (p q : Int × List Nat) : lexS (kyIS p) (kyIS q) = ltIS p q := rfl
theorem pairsIS_eq : ∀ {xs : List PV} {l : List (Int × List Nat)}, pairsIS xs = some l → xs = l.map mkIS
  | [], _, h => by cases h; rfl
  | x :: xs, _, h => by
    have h : (pairIS x).bind (fun p => (pairsIS xs).map fun ps => p :: ps) = some _ := h
    cases e : pairIS x with
    | none => rw [e] at h; cases h
    | some p =>
      rw [e] at h
      obtain ⟨ps, e2, rfl⟩ := map_some (show (pairsIS xs).map (fun ps => p :: ps) = some _ from h)
      rw [pairsIS_eq e2]
      unfold pairIS at e
      split at e
      · cases e; rfl
      · cases e
section
variable {c : Cn} {G : Gh} {k : V → Int × Str}
theorem ins_rep {v : V} {p : Int × List Nat} (rv : RepV c G v (mkIS p)) (kv : k v = kyIS p) : ∀ {vs : List V} {l : List (Int × List Nat)}, RepVs c G vs (l.map mkIS) → vs.map k = l.map kyIS → RepVs c G (insBy (ltS k) v vs) ((insBy ltIS p l).map mkIS) ∧ (insBy (ltS k) v vs).map k = (insBy ltIS p l).map kyIS
  | [], [], r, e => ⟨.cons rv .nil, by simp [insBy, kv]⟩
  | [], _ :: _, r, e => by cases e
  | _ :: _, [], r, e => by cases e
  | w :: vs, q :: l, r, e => by
    cases r with
    | cons r1 r2 =>
      have e1 : k w = kyIS q := (List.cons.inj e).1
      have e2 : vs.map k = l.map kyIS := (List.cons.inj e).2
      have el : ltS k w v = ltIS q p := by
        show lexS (k w) (k v) = _
        rw [e1, kv]
        exact lexS_ky q p
      unfold insBy
      rw [el]
      cases ltIS q p with
      | true =>
        obtain ⟨i1, i2⟩ := ins_rep rv kv r2 e2
        exact ⟨.cons r1 i1, by simp only [if_true, List.map_cons]; rw [e1, i2]⟩
      | false => exact ⟨.cons rv (.cons r1 r2), by simp only [Bool.false_eq_true, if_false, List.map_cons]; rw [kv, e1, e2]⟩
theorem isort_rep : ∀ {vs : List V} {l : List (Int × List Nat)}, RepVs c G vs (l.map mkIS) → vs.map k = l.map kyIS → RepVs c G (isort (ltS k) vs) ((isort ltIS l).map mkIS) ∧ (isort (ltS k) vs).map k = (isort ltIS l).map kyIS
  | [], [], r, e => ⟨.nil, rfl⟩
  | [], _ :: _, r, e => by cases e
  | _ :: _, [], r, e => by cases e
  | w :: vs, q :: l, r, e => by
    cases r with
    | cons r1 r2 =>
      obtain ⟨i1, i2⟩ := isort_rep r2 (List.cons.inj e).2
      exact ins_rep r1 (List.cons.inj e).1 i1 i2
end
theorem rd_sortIS {c : Cn} : RdN c (rSortedIS c.K) nSortIS := by
  intro G H st vs ps z Q S r h kq
  match ps, h with
  | [.lst xs], h =>
    obtain ⟨v, rfl, r1⟩ := rep1 r
    cases r1 with
    | @lst a us _ ha ra =>
      obtain ⟨l, e, rfl⟩ := map_some (show (pairsIS xs).map (fun l => PV.lst ((isort ltIS l).map fun p => .tup [.int p.1, .str p.2])) = some z from h)
      have ex := pairsIS_eq e
      subst ex
      have al : ∀ {us : List V} {l : List (Int × List Nat)}, RepVs c G us (l.map mkIS) → Paired (IsIS c.K H) us (l.map kyIS) := by
        intro us l
        induction l generalizing us with
        | nil => intro r; cases r; exact .nil
        | cons p l ih =>
          intro r
          cases r with
          | cons r1 r2 =>
            cases r1 with
            | tup ht rt =>
              refine .cons ⟨_, rfl, ?_⟩ (ih r2)
              cases rt with
              | cons q1 q2 =>
                cases q2 with
                | cons q2 q3 =>
                  cases q1
                  cases q2
                  cases q3
                  exact S.sqT ht
      refine ⟨a, us, l.map kyIS, rfl, SqL.of (S.lst ha), al ra, fun k ek ys p h1 h2 hp => ?_⟩
      obtain ⟨m1, m2⟩ := isort_ok (swo_lexS k) us
      have ey : ys = isort (ltS k) us := SrtO.stb_uniq (swo_lexS k) h1 m1 (h2.trans ⟨m2.perm.symm, fun x => (m2.cls x).symm⟩)
      subst ey
      exact rd_new S hp (new_lst S hp (isort_rep ra ek).1) kq
end BR
set_option Elab.async false
set_option linter.all false
set_option maxRecDepth 100000
set_option maxHeartbeats 2000000
/-! BrS: dicts with keys that are tuples. -/
namespace BR
open PySem PySem.Spec PyProof.Rows L2
/-! ### what the evaluator does -/
def dGet (k : PV) : List PV → List PV → Option PV
  | q :: qs, v :: vs => if eqv q k then some v else dGet k qs vs
  | _, _ => none
def dPut (k v : PV) : List PV → List PV → List PV × List PV
  | q :: qs, w :: ws => if eqv q k then (q :: qs, v :: ws) else (q :: (dPut k v qs ws).1, w :: (dPut k v qs ws).2)
  | _, _ => ([k], [v])
def kok (p : PV) : Bool := (kd p).isSome
def dcGo (g : GM) (t : BM) (ek ev : EM) (ρ : Env) : List PV → List PV → List PV → Store → R PV
  | [], ks, vs, st => .ok (.dct ks vs) st
  | x :: xs, ks, vs, st => match g x ρ st with
    | none => .bad
    | some (ρ1, st1) => (t ρ1 st1).noex.bind fun b st2 => if b then (ek ρ1 st2).noex.bind fun k st3 => (ev ρ1 st3).noex.bind fun v st4 =>
        (if kok k && decide (ks.length < lim) then dcGo g t ek ev ρ xs (dPut k v ks vs).1 (dPut k v ks vs).2 st4 else .bad) else dcGo g t ek ev ρ xs ks vs st2
def eDc (w : AM) (own : List Nat) (g : GM) (t : BM) (ek ev : EM) : EM := fun ρ st => (w ρ st).bind fun xs st1 => dcGo g t ek ev (wipeE ρ own) xs [] [] st1
/-! ### keys -/
theorem kd_nk {p : PV} {k : NestedKey} (h : kd p = some k) : nkey p = some k ∧ k.depth ≤ 8 := by
  cases p with
  | tup xs =>
    have h : (nkeys xs).bind (fun ks => if NestedKey.depthAll ks < 8 then some (NestedKey.tup ks) else none) = some k := h
    cases e : nkeys xs with
    | none => rw [e] at h; cases h
    | some ks =>
      rw [e] at h
      have h : (if NestedKey.depthAll ks < 8 then some (NestedKey.tup ks) else none) = some k := h
      by_cases hl : NestedKey.depthAll ks < 8
      · rw [if_pos hl] at h
        cases h
        exact ⟨by show (nkeys xs).map NestedKey.tup = _; rw [e]; rfl, hl⟩
      · rw [if_neg hl] at h
        cases h
  | _ => cases h
mutual
theorem nk_eqv : ∀ (p q : PV) (a b : NestedKey), nkey p = some a → nkey q = some b → (eqv p q = true ↔ a = b)
  | .non, q, a, b, h1, h2 => by
    cases h1
    cases q <;> first | (cases h2; done) | (cases h2; simp [eqv]; done) | skip
    case tup ys =>
      obtain ⟨ks, _, rfl⟩ := map_some (show (nkeys ys).map NestedKey.tup = some b from h2)
      simp [eqv]
  | .int i, q, a, b, h1, h2 => by
    cases h1
    cases q <;> first | (cases h2; done) | (cases h2; simp [eqv]; done) | skip
    case tup ys =>
      obtain ⟨ks, _, rfl⟩ := map_some (show (nkeys ys).map NestedKey.tup = some b from h2)
      simp [eqv]
  | .str s, q, a, b, h1, h2 => by
    cases h1
    cases q <;> first | (cases h2; done) | (cases h2; simp [eqv]; done) | skip
    case tup ys =>
      obtain ⟨ks, _, rfl⟩ := map_some (show (nkeys ys).map NestedKey.tup = some b from h2)
      simp [eqv]
  | .tup xs, q, a, b, h1, h2 => by
    obtain ⟨js, e1, rfl⟩ := map_some (show (nkeys xs).map NestedKey.tup = some a from h1)
    cases q <;> first | (cases h2; done) | (cases h2; simp [eqv]; done) | skip
    case tup ys =>
      obtain ⟨ks, e2, rfl⟩ := map_some (show (nkeys ys).map NestedKey.tup = some b from h2)
      show eqvs xs ys = true ↔ _
      rw [nks_eqv xs ys js ks e1 e2]
      simp
  | .bl _, _, _, _, h1, _ => by cases h1
  | .lst _, _, _, _, h1, _ => by cases h1
  | .dct _ _, _, _, _, h1, _ => by cases h1
  | .ins _ _ _, _, _, _, h1, _ => by cases h1
  | .scr _, _, _, _, h1, _ => by cases h1
  | .wt _, _, _, _, h1, _ => by cases h1
  | .ref _, _, _, _, h1, _ => by cases h1
theorem nks_eqv : ∀ (ps qs : List PV) (as bs : List NestedKey), nkeys ps = some as → nkeys qs = some bs → (eqvs ps qs = true ↔ as = bs)
  | [], [], as, bs, h1, h2 => by cases h1; cases h2; simp [eqvs]
  | [], q :: qs, as, bs, h1, h2 => by
    cases h1
    have h2 : (nkey q).bind (fun k => (nkeys qs).map fun ks => k :: ks) = some bs := h2
    cases e : nkey q with
    | none => rw [e] at h2; cases h2
    | some k =>
      rw [e] at h2
      obtain ⟨ks, _, rfl⟩ := map_some (show (nkeys qs).map (fun ks => k :: ks) = some bs from h2)
      simp [eqvs]
  | p :: ps, [], as, bs, h1, h2 => by
    cases h2
    have h1 : (nkey p).bind (fun k => (nkeys ps).map fun ks => k :: ks) = some as := h1
    cases e : nkey p with
    | none => rw [e] at h1; cases h1
    | some k =>
      rw [e] at h1
      obtain ⟨ks, _, rfl⟩ := map_some (show (nkeys ps).map (fun ks => k :: ks) = some as from h1)
      simp [eqvs]
  | p :: ps, q :: qs, as, bs, h1, h2 => by
    have h1 : (nkey p).bind (fun k => (nkeys ps).map fun ks => k :: ks) = some as := h1
    have h2 : (nkey q).bind (fun k => (nkeys qs).map fun ks => k :: ks) = some bs := h2
    cases e : nkey p with
    | none => rw [e] at h1; cases h1
    | some k =>
      cases e2 : nkey q with
      | none => rw [e2] at h2; cases h2
      | some j =>
        rw [e] at h1
        rw [e2] at h2
        obtain ⟨ks, e3, rfl⟩ := map_some (show (nkeys ps).map (fun ks => k :: ks) = some as from h1)
        obtain ⟨js, e4, rfl⟩ := map_some (show (nkeys qs).map (fun ks => j :: ks) = some bs from h2)
        show (eqv p q && eqvs ps qs) = true ↔ _
        rw [Bool.and_eq_true, nk_eqv p q k j e e2, nks_eqv ps qs ks js e3 e4]
        simp
end
theorem kd_eqv {p q : PV} {a b : NestedKey} (h1 : kd p = some a) (h2 : kd q = some b) : eqv p q = decide (a = b) := by
  have z := nk_eqv p q a b (kd_nk h1).1 (kd_nk h2).1
  by_cases e : a = b
  · rw [decide_eq_true e]
    exact z.mpr e
  · rw [decide_eq_false e]
    exact Bool.eq_false_iff.mpr fun y => e (z.mp y)
theorem sqT_ok {P : Program} {w : World} {K : PySem.W.Frag} {H : Hp} {h : Heap} {a : Addr} {xs : List V} (ok : HOk P w H h) (kin : K.In h) (q : SqT K H a xs) : ∃ its : List Value, Vals xs its ∧ IsTup h a its.toArray := by
  rcases q with q | ⟨o, its, n, hk, hc, hs, hz, r⟩
  · obtain ⟨z, its, r, p⟩ := q.ok ok
    exact ⟨its, r, p⟩
  · exact ⟨its.toList, r, ⟨o, kin a o hk, hc, n, by simpa using hs⟩⟩
section
variable {c : Cn} {H : Hp} {h : Heap} {st : Store} {G : Gh}
mutual
/-- a value that is a key is one in every heap that is described so -/
theorem nk_is (ok : HOk c.P c.w H h) (kin : c.K.In h) (S : SRel c H st G) : ∀ (p : PV) (v : V) (u : Value) (k : NestedKey), RepV c G v p → nkey p = some k → RelV v u → NestedIs h k u
  | .non, _, u, k, r, e, y => by
    cases r
    cases e
    cases (show u = Value.none from y)
    exact .none
  | .int i, _, u, k, r, e, y => by
    cases r
    cases e
    obtain ⟨t, rfl⟩ := (show ∃ t, u = Value.int i t from y)
    exact .int _ _
  | .str z, _, u, k, r, e, y => by
    cases r
    cases e
    obtain ⟨t, rfl⟩ := (show ∃ t, u = Value.str ⟨z.toArray⟩ t from y)
    exact .text _ _
  | .tup xs, _, u, k, r, e, y => by
    cases r with
    | @tup a vs _ h1 h2 =>
      obtain ⟨ks, e1, rfl⟩ := map_some (show (nkeys xs).map NestedKey.tup = some k from e)
      obtain ⟨its, rv, o, ho, hc, n, hd⟩ := sqT_ok ok kin (S.sqT h1)
      cases (show u = Value.ref a from y)
      exact .tup ho hc hd (by simpa using nks_is ok kin S xs _ its ks h2 e1 rv)
  | .bl _, _, _, _, _, e, _ => by cases e
  | .lst _, _, _, _, _, e, _ => by cases e
  | .dct _ _, _, _, _, _, e, _ => by cases e
  | .ins _ _ _, _, _, _, _, e, _ => by cases e
  | .scr _, _, _, _, _, e, _ => by cases e
  | .wt _, _, _, _, _, e, _ => by cases e
  | .ref _, _, _, _, _, e, _ => by cases e
theorem nks_is (ok : HOk c.P c.w H h) (kin : c.K.In h) (S : SRel c H st G) : ∀ (ps : List PV) (vs : List V) (us : List Value) (ks : List NestedKey), RepVs c G vs ps → nkeys ps = some ks → Vals vs us → NestedAll h ks us
  | [], _, us, ks, r, e, y => by
    cases r
    cases e
    cases y
    exact .nil
  | p :: ps, _, us, ks, r, e, y => by
    cases r with
    | cons r1 r2 =>
      have e : (nkey p).bind (fun k => (nkeys ps).map fun ks => k :: ks) = some ks := e
      cases e1 : nkey p with
      | none => rw [e1] at e; cases e
      | some k =>
        rw [e1] at e
        obtain ⟨js, e2, rfl⟩ := map_some (show (nkeys ps).map (fun ks => k :: ks) = some ks from e)
        cases y with
        | cons y1 y2 => exact .cons (nk_is ok kin S p _ _ k r1 e1 y1) (nks_is ok kin S ps _ _ js r2 e2 y2)
end
end
/-- at a stands the key k, in every heap that is described so -/
def KeyH (P : Program) (w : World) (K : PySem.W.Frag) (H : Hp) (k : NestedKey) (a : Addr) : Prop := ∀ h : Heap, HOk P w H h → K.In h → (nestedKind P w).is h k a
theorem keyH_of {c : Cn} {H : Hp} {st : Store} {G : Gh} {a : Addr} {p : PV} {k : NestedKey} (S : SRel c H st G) (r : RepV c G (.ref a) p) (e : kd p = some k) : KeyH c.P c.w c.K H k a := fun h ok kin =>
  ⟨nk_is ok kin S p _ (.ref a) k r (kd_nk e).1 rfl, (kd_nk e).2⟩
theorem keysH_of {c : Cn} {H : Hp} {st : Store} {G : Gh} (S : SRel c H st G) : ∀ {es : List DE} {ks : List PV}, ks.map kd = es.map (fun e => some e.1) → RepVs c G (es.map fun e => V.ref e.2.1) ks → ∀ e ∈ es, KeyH c.P c.w c.K H e.1 e.2.1
  | [], _, _, _, e, he => absurd he List.not_mem_nil
  | e0 :: es, [], h, _, _, _ => by simp at h
  | e0 :: es, k :: ks, h, r, e, he => by
    rw [List.map_cons, List.map_cons] at h
    cases r with
    | cons r1 r2 =>
      rcases List.mem_cons.mp he with rfl | he
      · exact keyH_of S r1 (List.cons.inj h).1
      · exact keysH_of S (List.cons.inj h).2 r2 e he
/-! ### entries -/
theorem paired_mem {α β : Type} {F : α → β → Prop} : ∀ {l : List α} {m : List β}, Paired F l m → ∀ x ∈ m, ∃ e ∈ l, F e x
  | _, _, .nil, x, hx => absurd hx List.not_mem_nil
  | _, _, .cons h t, x, hx => by
    rcases List.mem_cons.mp hx with rfl | hx
    · exact ⟨_, List.mem_cons_self .., h⟩
    · obtain ⟨e, he, q⟩ := paired_mem t x hx
      exact ⟨e, List.mem_cons_of_mem _ he, q⟩
theorem deok_keys : ∀ {es : List DE} {xs : List (NestedKey × Addr × Value)}, Paired DEOk es xs → es.map (fun e => e.1) = xs.map (fun x => x.1)
  | _, _, .nil => rfl
  | _, _, .cons h t => by rw [List.map_cons, List.map_cons, h.1, deok_keys t]
def stE (es : List DE) (k : NestedKey) (b : Addr) (v : V) : List DE := if (es.any fun e => decide (e.1 = k)) = true then es.map (fun e => if e.1 = k then (e.1, e.2.1, v) else e) else es ++ [(k, b, v)]
theorem deok_any {k : NestedKey} : ∀ {es : List DE} {xs : List (NestedKey × Addr × Value)}, Paired DEOk es xs → (es.any fun e => decide (e.1 = k)) = (atKey xs k).isSome
  | _, _, .nil => rfl
  | _, _, .cons (a := e) (b := x) h t => by
    rw [List.any_cons, deok_any t]
    by_cases q : x.1 = k
    · rw [h.1, decide_eq_true q, Bool.true_or]
      simp [atKey, List.find?_cons, q]
    · rw [h.1, decide_eq_false q, Bool.false_or]
      simp [atKey, List.find?_cons, q]
theorem deok_repl {k : NestedKey} {v : V} {u : Value} (rv : RelV v u) : ∀ {es : List DE} {xs : List (NestedKey × Addr × Value)}, Paired DEOk es xs → Paired DEOk (es.map fun e => if e.1 = k then (e.1, e.2.1, v) else e) (xs.map (PySem.putAt k u))
  | _, _, .nil => .nil
  | _, _, .cons (a := e) (b := x) h t => by
    rw [List.map_cons, List.map_cons]
    refine .cons ?_ (deok_repl rv t)
    unfold PySem.putAt
    by_cases q : x.1 = k
    · rw [if_pos q, if_pos (h.1.trans q)]
      exact ⟨h.1, h.2.1, rv⟩
    · rw [if_neg q, if_neg (fun z => q (h.1.symm.trans z))]
      exact h
theorem deok_put {k : NestedKey} {b : Addr} {v : V} {u : Value} {es : List DE} {xs : List (NestedKey × Addr × Value)} (rv : RelV v u) (r : Paired DEOk es xs) : Paired DEOk (stE es k b v) (storedH xs k b u) := by
  unfold stE storedH
  rw [deok_any r]
  by_cases q : (atKey xs k).isSome = true
  · rw [if_pos q, if_pos q]
    exact deok_repl rv r
  · rw [if_neg q, if_neg q]
    exact Paired.snoc r ⟨rfl, rfl, rv⟩
theorem deok_val {k : NestedKey} : ∀ {es : List DE} {xs : List (NestedKey × Addr × Value)}, Paired DEOk es xs → ∀ {v : V}, ((es.find? fun e => decide (e.1 = k)).map fun e => e.2.2) = some v → ∃ p, atKey xs k = some p ∧ RelV v p.2
  | _, _, .nil, v, h => by cases h
  | _, _, .cons (a := e) (b := x) h t, v, q => by
    by_cases z : x.1 = k
    · rw [List.find?_cons, decide_eq_true (h.1.trans z)] at q
      cases q
      exact ⟨x.2, by simp [atKey, List.find?_cons, z], h.2.2⟩
    · rw [List.find?_cons, decide_eq_false (fun y => z (h.1.symm.trans y))] at q
      obtain ⟨p, e1, e2⟩ := deok_val t q
      exact ⟨p, by unfold atKey at e1 ⊢; rw [List.find?_cons, decide_eq_false z]; exact e1, e2⟩
theorem deok_none {k : NestedKey} : ∀ {es : List DE} {xs : List (NestedKey × Addr × Value)}, Paired DEOk es xs → (es.find? fun e => decide (e.1 = k)) = none → atKey xs k = none
  | _, _, .nil, h => rfl
  | _, _, .cons (a := e) (b := x) h t, q => by
    by_cases z : x.1 = k
    · rw [List.find?_cons, decide_eq_true (h.1.trans z)] at q
      cases q
    · rw [List.find?_cons, decide_eq_false (fun y => z (h.1.symm.trans y))] at q
      have e1 := deok_none t q
      unfold atKey at e1 ⊢
      rw [List.find?_cons, decide_eq_false z]
      exact e1
theorem stE_cons {e : DE} {es : List DE} {k : NestedKey} {b : Addr} {v : V} (nd : ((e :: es).map fun e => e.1).Nodup) : stE (e :: es) k b v = if e.1 = k then (e.1, e.2.1, v) :: es else e :: stE es k b v := by
  rw [List.map_cons, List.nodup_cons] at nd
  unfold stE
  by_cases q : e.1 = k
  · rw [if_pos q, List.any_cons, decide_eq_true q, Bool.true_or, if_pos rfl, List.map_cons, if_pos q]
    congr 1
    have : ∀ x ∈ es, (if x.1 = k then (x.1, x.2.1, v) else x) = x := fun x hx => if_neg fun z => nd.1 (List.mem_map.mpr ⟨x, hx, z.trans q.symm⟩)
    rw [List.map_congr_left this, List.map_id']
  · rw [if_neg q, List.any_cons, decide_eq_false q, Bool.false_or]
    by_cases a : (es.any fun e => decide (e.1 = k)) = true
    · rw [if_pos a, if_pos a, List.map_cons, if_neg q]
    · rw [if_neg a, if_neg a, List.cons_append]
theorem stE_nodup {k : NestedKey} {b : Addr} {v : V} : ∀ {es : List DE}, (es.map fun e => e.1).Nodup → ((stE es k b v).map fun e => e.1).Nodup := fun {es} nd => by
  unfold stE
  by_cases a : (es.any fun e => decide (e.1 = k)) = true
  · rw [if_pos a, List.map_map]
    have : (es.map ((fun e : DE => e.1) ∘ fun e => if e.1 = k then (e.1, e.2.1, v) else e)) = es.map fun e => e.1 := List.map_congr_left fun x _ => by
      show (if x.1 = k then (x.1, x.2.1, v) else x).1 = x.1
      split <;> rfl
    rw [this]
    exact nd
  · rw [if_neg a, List.map_append]
    refine List.nodup_append.mpr ⟨nd, by simp, fun x hx y hy => ?_⟩
    simp only [List.map_cons, List.map_nil, List.mem_singleton] at hy
    subst hy
    rintro rfl
    obtain ⟨e, he, q⟩ := List.mem_map.mp hx
    exact a (List.any_eq_true.mpr ⟨e, he, decide_eq_true q⟩)
theorem stE_len {es : List DE} {k : NestedKey} {b : Addr} {v : V} : (stE es k b v).length ≤ es.length + 1 := by
  unfold stE
  split
  · rw [List.length_map]; omega
  · rw [List.length_append]; simp
theorem stE_mem {es : List DE} {k : NestedKey} {b : Addr} {v : V} {F : NestedKey → Addr → Prop} (h : ∀ e ∈ es, F e.1 e.2.1) (hk : F k b) : ∀ e ∈ stE es k b v, F e.1 e.2.1 := fun e he => by
  unfold stE at he
  split at he
  · obtain ⟨x, hx, rfl⟩ := List.mem_map.mp he
    have := h x hx
    split
    · exact this
    · exact this
  · rcases List.mem_append.mp he with he | he
    · exact h e he
    · rw [List.mem_singleton.mp he]
      exact hk
/-- the evaluator's entries follow -/
theorem dput_rep {c : Cn} {G : Gh} {p q : PV} {k : NestedKey} {b : Addr} {v : V} (ek : kd p = some k) (rk : RepV c G (.ref b) p) (rv : RepV c G v q) : ∀ {es : List DE} {ks vs : List PV}, (es.map fun e => e.1).Nodup → ks.map kd = es.map (fun e => some e.1) →
    RepVs c G (es.map fun e => V.ref e.2.1) ks → RepVs c G (es.map fun e => e.2.2) vs →
    (dPut p q ks vs).1.map kd = (stE es k b v).map (fun e => some e.1) ∧ RepVs c G ((stE es k b v).map fun e => V.ref e.2.1) (dPut p q ks vs).1 ∧ RepVs c G ((stE es k b v).map fun e => e.2.2) (dPut p q ks vs).2
  | [], [], [], _, _, _, _ => ⟨by simp [dPut, stE, ek], .cons rk .nil, .cons rv .nil⟩
  | [], _ :: _, _, _, h, _, _ => by simp at h
  | [], [], _ :: _, _, _, _, r => by cases r
  | e :: es, [], _, _, h, _, _ => by simp at h
  | e :: es, _ :: _, [], _, _, _, r => by cases r
  | e :: es, p0 :: ks, q0 :: vs, nd, h, r1, r2 => by
    rw [List.map_cons, List.map_cons] at h
    obtain ⟨h1, h2⟩ := List.cons.inj h
    cases r1 with
    | cons a1 a2 =>
      cases r2 with
      | cons b1 b2 =>
        rw [stE_cons nd]
        have z : eqv p0 p = decide (e.1 = k) := kd_eqv h1 ek
        by_cases y : e.1 = k
        · rw [if_pos y]
          have : dPut p q (p0 :: ks) (q0 :: vs) = (p0 :: ks, q :: vs) := by
            show (if eqv p0 p then _ else _) = _
            rw [z, decide_eq_true y, if_pos rfl]
          rw [this]
          exact ⟨by simp [h1, h2], .cons a1 a2, .cons rv b2⟩
        · rw [if_neg y]
          have : dPut p q (p0 :: ks) (q0 :: vs) = (p0 :: (dPut p q ks vs).1, q0 :: (dPut p q ks vs).2) := by
            show (if eqv p0 p then _ else _) = _
            rw [z, decide_eq_false y]
            rfl
          rw [this]
          obtain ⟨i1, i2, i3⟩ := dput_rep ek rk rv (List.nodup_cons.mp nd).2 h2 a2 b2
          exact ⟨by simp [h1, i1], .cons a1 i2, .cons b1 i3⟩
theorem dget_rep {c : Cn} {G : Gh} {p : PV} {k : NestedKey} (ek : kd p = some k) : ∀ {es : List DE} {ks vs : List PV}, ks.map kd = es.map (fun e => some e.1) → RepVs c G (es.map fun e => e.2.2) vs →
    (∀ q, dGet p ks vs = some q → ∃ v, ((es.find? fun e => decide (e.1 = k)).map fun e => e.2.2) = some v ∧ RepV c G v q) ∧ (dGet p ks vs = none → (es.find? fun e => decide (e.1 = k)) = none)
  | [], [], [], _, _ => ⟨fun q h => (by cases h), fun _ => rfl⟩
  | [], _ :: _, _, h, _ => by simp at h
  | [], [], _ :: _, _, r => by cases r
  | e :: es, [], _, h, _ => by simp at h
  | e :: es, _ :: _, [], _, r => by cases r
  | e :: es, p0 :: ks, q0 :: vs, h, r2 => by
    rw [List.map_cons, List.map_cons] at h
    obtain ⟨h1, h2⟩ := List.cons.inj h
    cases r2 with
    | cons b1 b2 =>
      have z : eqv p0 p = decide (e.1 = k) := kd_eqv h1 ek
      have d : dGet p (p0 :: ks) (q0 :: vs) = if decide (e.1 = k) = true then some q0 else dGet p ks vs := by
        show (if eqv p0 p = true then _ else _) = _
        rw [z]
      rw [d]
      by_cases y : e.1 = k
      · rw [decide_eq_true y, if_pos rfl, List.find?_cons, decide_eq_true y]
        exact ⟨fun q hq => (by cases hq; exact ⟨_, rfl, b1⟩), fun hq => (by cases hq)⟩
      · rw [decide_eq_false y, if_neg Bool.false_ne_true, List.find?_cons, decide_eq_false y]
        exact dget_rep ek h2 b2
end BR
set_option Elab.async false
set_option linter.all false
set_option maxRecDepth 100000
set_option maxHeartbeats 4000000
/-! BrT: dict comprehensions, d.get(k, x), d[k], dict(pairs) over such dicts. -/
namespace BR
open PySem PySem.Spec PyProof.Rows L2
section
variable {P : Program} {w : World} {K : PySem.W.Frag} {H : Hp} {h : Heap} {a : Addr} {es : List DE}
theorem don_of {X : Cx} {pins : List (Addr × Obj)} {σ : L2.St} {s : Shared} (I : Inv X pins σ H s) (ha : H a = some (DHO X.prog X.w a es)) : DOn X.prog X.w a es s.heap := (show ObjOk X.prog X.w H s.heap a (.ext (DOn X.prog X.w a es)) from I.hok a _ ha).1
theorem don_ok (d : DOn P w a es h) : ObjOk P w H h a (DHO P w a es) := by
  refine ⟨d, ?_, fun h1 h2 x k => ?_⟩
  · obtain ⟨_, _, _, _, _, o, _, _, ho, _⟩ := d
    exact ⟨o, ho⟩
  · obtain ⟨q1, q2, q3, xs, q4, o, tab, ep, ho, r⟩ := x
    exact ⟨q1, q2, q3, xs, q4, o, tab, ep, k o ho, r⟩
theorem don_dict (d : DOn P w a es h) (ks : ∀ e ∈ es, (nestedKind P w).is h e.1 e.2.1) : ∃ xs : List (NestedKey × Addr × Value), Paired DEOk es xs ∧ h.DictOfH (nestedKind P w) a xs := by
  obtain ⟨_, _, nd, xs, r, o, tab, ep, ho, hx, hd, he⟩ := d
  refine ⟨xs, r, o, tab, ep, ho, hx, hd, he, fun x hx => ?_, ?_⟩
  · obtain ⟨e, hm, q⟩ := paired_mem r x hx
    have z := ks e hm
    rw [q.1, q.2.1] at z
    exact z
  · rw [← deok_keys r]
    exact nd
theorem don_make (hs : (a == sysModules) = false) (hl : es.length ≤ sizeLine) {xs : List (NestedKey × Addr × Value)} (r : Paired DEOk es xs) (d : h.DictOfH (nestedKind P w) a xs) : DOn P w a es h := by
  obtain ⟨o, tab, ep, ho, hx, hd, he, _, nd⟩ := d
  exact ⟨hs, hl, by rw [deok_keys r]; exact nd, xs, r, o, tab, ep, ho, hx, hd, he⟩
theorem don_type {s : Shared} (d : DOn P w a es s.heap) : s.TypeIs (.ref a) "dict" ∧ (∀ b, Value.ref a = .ref b → ∃ ob, s.heap.get? b = some ob ∧ ob.dict = none) := by
  obtain ⟨_, _, _, _, _, o, _, _, ho, hx, _⟩ := d
  refine ⟨⟨o, ho, hx.1⟩, fun b e => ?_⟩
  cases e
  exact ⟨o, ho, hx.2.1⟩
theorem room8 {A : Around} (hu : A.units + 64 < cLine) : (nestedKind P w).room A ∧ (nestedKind P w).room A.in1 ∧ (nestedKind P w).room A.in1.in1 := ⟨by show A.units + 8 < _; omega, by show A.units + 1 + 8 < _; omega, by show A.units + 1 + 1 + 8 < _; omega⟩
end
/-- at a stands the dict es, its keys are keys -/
def DAt (X : Cx) (H : Hp) (a : Addr) (es : List DE) : Prop := H a = some (DHO X.prog X.w a es) ∧ ∀ e ∈ es, KeyH X.prog X.w X.K H e.1 e.2.1
theorem dat_of {X : Cx} {pins : List (Addr × Obj)} {σ : L2.St} {H : Hp} {s : Shared} {a : Addr} {es : List DE} (I : Inv X pins σ H s) (d : DAt X H a es) : DOn X.prog X.w a es s.heap ∧ ∃ xs : List (NestedKey × Addr × Value), Paired DEOk es xs ∧ s.heap.DictOfH (nestedKind X.prog X.w) a xs :=
  ⟨don_of I d.1, don_dict (don_of I d.1) fun e he => d.2 e he _ I.hok I.kIn⟩
def vAt (es : List DE) (k : NestedKey) : Option V := (es.find? fun e => decide (e.1 = k)).map fun e => e.2.2
theorem vat_rel {es : List DE} {xs : List (NestedKey × Addr × Value)} {k : NestedKey} {z : V} {u : Value} (r : Paired DEOk es xs) (rz : RelV z u) : RelV ((vAt es k).getD z) (((atKey xs k).map (·.2)).getD u) := by
  cases e : vAt es k with
  | none =>
    have q : (es.find? fun e => decide (e.1 = k)) = none := by
      unfold vAt at e
      exact Option.map_eq_none_iff.mp e
    rw [deok_none r q]
    exact rz
  | some v =>
    obtain ⟨p, e1, e2⟩ := deok_val r e
    rw [e1]
    exact e2
/-! ### d.get(k, x) -/
section
variable {X : Cx} {o e f i : Expr} {apos cpos pos : Pos} {td ty tx : TE}
def tGetN (X : Cx) (td ty tx : TE) : TE := fun σ H Q => td σ H fun x H1 => ∃ a es, x = .ref a ∧ DAt X H1 a es ∧ ty σ H1 fun y H2 => tx σ H2 fun z H3 => ∃ b k es, y = .ref b ∧ DAt X H3 a es ∧ KeyH X.prog X.w X.K H3 k b ∧ Q ((vAt es k).getD z) H3
theorem pe_getN (hu : X.A.units + 64 < cLine) (ho : PE X o td) (he : PE X e ty) (hf : PE X f tx) (m : M2 X o "get" apos e f cpos) : PE X (.Call (.Attribute o "get" apos) [e, f] [] cpos) (tGetN X td ty tx) := by
  refine ⟨fun pins s σ H Q I h => wpAny_Call_method m.base m.few m.line PySem.F.plainAttrs_dict PySem.F.slot_dict_get PySem.F.type_dict_get (thn (ho.run pins s σ H _ I h) fun u s1 q0 => ?_)⟩
  obtain ⟨x, H1, I1, rx, a, es1, ex, d1, q1⟩ := q0
  subst ex
  cases (show u = Value.ref a from rx)
  refine ⟨(don_type (don_of I1 d1.1)).1, (don_type (don_of I1 d1.1)).2, ?_⟩
  rw [m.trees]
  refine Calls.callWith_builtin rfl (Calls.evalArgs_plain (Calls.spliced_cons (thn (he.run pins s1 σ H1 _ I1 q1) fun iv s2 q2 => ?_)))
  obtain ⟨y, H2, I2, ry, q2⟩ := q2
  refine Calls.spliced_cons (thn (hf.run pins s2 σ H2 _ I2 q2) fun fv s3 q3 => Calls.spliced_nil ?_)
  obtain ⟨z, H3, I3, rz, b, k, es, ey, d, hk, q3⟩ := q3
  subst ey
  cases (show iv = Value.ref b from ry)
  obtain ⟨dn, xs, r, dd⟩ := dat_of I3 d
  exact call_meetsIn PySem.F.slot_dict_get dd.typeIs PySem.F.entry_dict_get (PySem.F.args_dict_get_3 _ _ _) (meetsH_dict_get_default (nestedKind X.prog X.w) a b dn.1 fv) ⟨(room8 hu).2.1, k, xs, hk _ I3.hok I3.kIn, dd, _, H3, I3.tok _, vat_rel r rz, q3⟩
/-! ### d[k] -/
def tIxN (X : Cx) (td ty : TE) : TE := fun σ H Q => td σ H fun x H1 => ty σ H1 fun y H2 => ∃ a b k es v, x = .ref a ∧ y = .ref b ∧ DAt X H2 a es ∧ KeyH X.prog X.w X.K H2 k b ∧ vAt es k = some v ∧ Q v H2
theorem pe_ixN (hu : X.A.units + 64 < cLine) (ho : PE X o td) (hi : PE X i ty) (hs : NoSl i) : PE X (.Subscript o i pos) (tIxN X td ty) := by
  refine ⟨fun pins s σ H Q I h => subD_of PySem.F.slot_dict_getitem.lookup hs (thn (ho.run pins s σ H _ I h) fun u s1 q0 => ?_)⟩
  obtain ⟨x, H1, I1, rx, q1⟩ := q0
  refine thn (hi.run pins s1 σ H1 _ I1 q1) fun iv s2 q2 => ?_
  obtain ⟨y, H2, I2, ry, a, b, k, es, v, ex, ey, d, hk, ev, q2⟩ := q2
  subst ex ey
  cases (show u = Value.ref a from rx)
  cases (show iv = Value.ref b from ry)
  obtain ⟨dn, xs, r, dd⟩ := dat_of I2 d
  obtain ⟨p, e1, e2⟩ := deok_val r ev
  exact ⟨(don_type dn).1, wpAny_getItem_heap (room8 hu).2.1 (hk _ I2.hok I2.kIn) dd e1 ⟨v, H2, I2.tok _, e2, q2⟩⟩
end
/-- the evaluator's dict is there -/
theorem dat_rep {cm : Nat → Option Addr} {X : Cx} {H : Hp} {st : Store} {G : Gh} {v : V} {ks vs : List PV} (S : SRel (cnOf X cm) H st G) (r : RepV (cnOf X cm) G v (.dct ks vs)) : ∃ a es, v = .ref a ∧ DAt X H a es ∧ ks.map kd = es.map (fun e => some e.1) ∧ RepVs (cnOf X cm) G (es.map fun e => e.2.2) vs := by
  cases r with
  | @dct a es _ _ h1 h2 h3 h4 => exact ⟨a, es, rfl, ⟨S.fzH _ _ h1, keysH_of S h2 h3⟩, h2, h4⟩
theorem key_rep {cm : Nat → Option Addr} {X : Cx} {H : Hp} {st : Store} {G : Gh} {v : V} {p : PV} (S : SRel (cnOf X cm) H st G) (r : RepV (cnOf X cm) G v p) (hk : kok p = true) : ∃ b k, v = .ref b ∧ kd p = some k ∧ KeyH X.prog X.w X.K H k b := by
  obtain ⟨k, e⟩ := Option.isSome_iff_exists.mp hk
  cases r with
  | tup h1 h2 => exact ⟨_, k, rfl, e, keyH_of S (.tup h1 h2) e⟩
  | _ => cases e
def eDGet (m n l : EM) : EM := fun ρ st => (m ρ st).bind fun d st1 => match d with
  | .dct ks vs => (n ρ st1).bind fun k st2 => (l ρ st2).bind fun x st3 => if kok k then .ok ((dGet k ks vs).getD x) st3 else .bad
  | _ => .bad
def pDIdx (d k : PV) : Option PV := match d with
  | .dct ks vs => if kok k then dGet k ks vs else none
  | _ => none
section
variable {cm : Nat → Option Addr} {X : Cx} {W : WX} {pos apos cpos : Pos} {m n l : EM} {o e f : Expr} {k : Nat}
theorem ce_dget (hr : Room k X.A) (ho : CE cm X W m o) (he : CE cm X W n e) (hf : CE cm X W l f) (hbase : attributeBase o "get" X.env (eval o X.env) = eval o X.env := by rfl)
    (hfew : ((backTo cpos (starEach [e, f] X.env)).all (fun x => !x.1) && (backToKw cpos (keywordEach [] X.env)).all (fun x => x.1.isSome) && decide (([e, f] : List Expr).length + ([] : List Keyword).length + (if ([] : List Keyword).isEmpty then 0 else 1) < 30)) = true := by rfl)
    (hline : (apos.endLine == cpos.line) = true := by rfl) (ht : backTo cpos (starEach [e, f] X.env) = [(false, eval e X.env), (false, eval f X.env)] := by rfl) : CE cm X W (eDGet m n l) (.Call (.Attribute o "get" apos) [e, f] [] cpos) :=
  PE.weak (pe_getN hr.units ho he hf ⟨hbase, hfew, hline, ht⟩) fun σ H Q ⟨B, ρ, st, G, R, h⟩ => ⟨B, ρ, st, G, R, Out.bindR early_E R h fun d st1 H1 G1 x s1 R1 rx h1 => by
    cases d with
    | dct ks vs =>
      obtain ⟨a, es, ev, da, _, _⟩ := dat_rep R1.toSRel rx
      refine ⟨a, es, ev, da, B, ρ, st1, G1, R1, Out.bindR early_E R1 h1 fun p st2 H2 G2 y s2 R2 ry h2 => ⟨B, ρ, st2, G2, R2, Out.bindR early_E R2 h2 fun q st3 H3 G3 z s3 R3 rz h3 => ?_⟩⟩
      by_cases hk : kok p = true
      · rw [if_pos hk] at h3
        obtain ⟨a', es', ev', da', em, rv⟩ := dat_rep R3.toSRel ((rx.up s2.toGExt).up s3.toGExt)
        rw [ev] at ev'
        cases ev'
        obtain ⟨b, k, ey, ek, kh⟩ := key_rep R3.toSRel (ry.up s3.toGExt) hk
        refine ⟨b, k, es', ey, da', kh, ?_⟩
        obtain ⟨g1, g2⟩ := dget_rep ek em rv
        cases eg : dGet p ks vs with
        | none =>
          rw [eg] at h3
          have : vAt es' k = none := by unfold vAt; rw [g2 eg]; rfl
          rw [this]
          exact h3 H3 G3 z (.refl G3 H3) R3.toSRel rz
        | some q' =>
          rw [eg] at h3
          obtain ⟨v, e1, e2⟩ := g1 q' eg
          have : vAt es' k = some v := e1
          rw [this]
          exact h3 H3 G3 v (.refl G3 H3) R3.toSRel e2
      · rw [if_neg hk] at h3
        exact h3.elim
    | _ => exact h1.elim⟩
theorem ce_dix {i : Expr} (hr : Room k X.A) (ho : CE cm X W m o) (hi : CE cm X W n i) (hs : NoSl i := by exact fun _ _ => rfl) : CE cm X W (eOp2 pDIdx m n) (.Subscript o i pos) :=
  PE.weak (pe_ixN hr.units ho hi hs) fun σ H Q ⟨B, ρ, st, G, R, h⟩ => ⟨B, ρ, st, G, R, Out.bindR early_E R h fun d st1 H1 G1 x s1 R1 rx h1 => ⟨B, ρ, st1, G1, R1, Out.bindR early_E R1 h1 fun p st2 H2 G2 y s2 R2 ry h2 => by
    obtain ⟨z, ez, h3⟩ := out_ofOpt h2
    cases d with
    | dct ks vs =>
      obtain ⟨hk, ez⟩ := ite_some (show (if kok p = true then dGet p ks vs else none) = some z from ez)
      obtain ⟨a, es, ev, da, em, rv⟩ := dat_rep R2.toSRel (rx.up s2.toGExt)
      obtain ⟨b, k, ey, ek, kh⟩ := key_rep R2.toSRel ry hk
      obtain ⟨v, e1, e2⟩ := (dget_rep ek em rv).1 z ez
      exact ⟨a, b, k, es, v, ev, ey, da, kh, e1, h3 H2 G2 v (.refl G2 H2) R2.toSRel e2⟩
    | _ => cases ez⟩⟩
end
/-! ### dict comprehensions -/
section
variable {X : Cx} {pins : List (Addr × Obj)} {σ : L2.St} {H : Hp} {s : Shared}
theorem set_keyN {E : Value → Shared → Prop} {D b : Addr} {es : List DE} {k : NestedKey} {v : V} {r : Value} {Q : Unit → Shared → Prop} (hu : X.A.units + 64 < cLine) (I : Inv X pins σ H s) (d : DAt X H D es) (hk : KeyH X.prog X.w X.K H k b) (hz : es.length < sizeLine) (rv : RelV v r)
    (h : ∀ s', Inv X pins σ (upd H D (DHO X.prog X.w D (stE es k b v))) s' → Q () s') : wpAny (model X.prog X.w) X.A (dictSet D (.ref b) r) Q E s := by
  obtain ⟨dn, xs, rel, dd⟩ := dat_of I d
  have hl : xs.length ≤ sizeLine := by rw [← rel.length]; exact dn.2.1
  refine wpAny_dictSet_heap (hsz := hl) (room8 hu).1 (hk _ I.hok I.kIn) dd fun h' dd' same => h _ ?_
  have there : ∃ q, h'.get? D = some q := by
    obtain ⟨q, _, _, hq, _⟩ := dd'
    exact ⟨q, hq⟩
  exact d_write I (by rw [d.1]; exact True.intro) same there (don_ok (don_make dn.1 (by have := stE_len (es := es) (k := k) (b := b) (v := v); omega) (deok_put rv rel) dd'))
theorem dat_nil {H : Hp} {h : Heap} (hb : sysModules < h.objs.size) : ObjOk X.prog X.w H (h.push { cls := .type "dict", data := .dict #[] }) h.objs.size (DHO X.prog X.w h.objs.size []) :=
  don_ok (don_make (beq_eq_false_iff_ne.mpr (Ne.symm (Nat.ne_of_lt hb))) (Nat.zero_le _) .nil (Heap.DictOfH.new h))
/-- what a turn leaves: the pair stored -/
def Puts (X : Cx) (D : Addr) (Nx : Hp → Prop) (y z : V) (H5 : Hp) : Prop := ∃ es k b, y = .ref b ∧ DAt X H5 D es ∧ KeyH X.prog X.w X.K H5 k b ∧ es.length < sizeLine ∧ Nx (upd H5 D (DHO X.prog X.w D (stE es k b z)))
def tDcN (X : Cx) (wi : TI) (g : TG) (tt : TT) (tk tv : TE) (vs : List Nat) : TE := fun σ H Q => wi σ H fun J H1 => ∀ D, H1 D = none → ∃ Wd : Nat → Nat → Hp → Prop, (∃ m, Wd 0 m (upd H1 D (DHO X.prog X.w D []))) ∧ ∀ i m H, Wd i m H →
  (J.stop i H ∧ Q (.ref D) H) ∨ (J.go i H ∧ ∃ Nx : Hp → Prop, (∀ H', Nx H' → ∃ m', m' < m ∧ Wd (i + 1) m' H') ∧ ∀ x H', J.yld i H x H' → g x (wipe σ vs) H' fun σ2 H2 => wipe σ2 vs = wipe σ vs ∧ tt σ2 H2 fun b H3 =>
    if b = true then tk σ2 H3 fun y H4 => tv σ2 H4 fun z H5 => Puts X D Nx y z H5 else Nx H3)
theorem dc_coreN {Q : VK} {kx vx tg iter : Expr} {ifs : List Expr} {scope : Scope} {own : List (Str × Nat)} {pos pos' : Pos} {wi : TI} {g : TG} {tt : TT} {tk tv : TE} {use : Option (Value → Sem Unit)} {Qf : Value → Shared → Prop}
    (hc : X.calm = true) (hu : X.A.units + 64 < cLine) (hN : X.N.Nodup) (I : Inv X pins σ H s) (hi : PI X tg iter wi) (ok : BlkOk X.N X.env.scope scope own)
    (hg : ∀ (s : Shared) (H : Hp) (C : Addr) (cl : List (Str × Addr)) (fp : List Addr), PG (X.blk s H scope (compEnvC scope cl C X.env) fp) tg g)
    (ht : ∀ (s : Shared) (H : Hp) (C : Addr) (cl : List (Str × Addr)) (fp : List Addr), PTs (X.blk s H scope (compEnvC scope cl C X.env) fp) ifs tt)
    (hk : ∀ (s : Shared) (H : Hp) (C : Addr) (cl : List (Str × Addr)) (fp : List Addr), PE (X.blk s H scope (compEnvC scope cl C X.env) fp) kx tk)
    (he : ∀ (s : Shared) (H : Hp) (C : Addr) (cl : List (Str × Addr)) (fp : List Addr), PE (X.blk s H scope (compEnvC scope cl C X.env) fp) vx tv) (hs : ∀ x, foldedSetIterable iter X.env x = pure x)
    (h : tDcN X wi g tt tk tv (own.map (·.2)) σ H Q)
    (hend : ∀ D C s' m H', Inv X pins σ H' s' → Q (.ref D) H' → s'.heap.Ns C m → FpOk X pins H' C → compPost (model X.prog X.w) X.A X.xe use Qf (.ref D) C (.ok .next) s') :
    wpAny (model X.prog X.w) X.A (comprehension (.DictComp kx vx [⟨tg, iter, ifs, 0⟩] scope pos) scope X.env pos' newDict false (eval iter X.env) use) Qf X.xe s := by
  have hfree : ∀ y ∈ scope.names, y.2 = .free → ∃ c, X.env.cells.lookup y.1 = some c := fun y hy e => (ok.free y hy e).elim (fun k => I.ok.has _ (.inl k)) fun k => I.ok.has _ (.inr k)
  refine wpAny_comprehension_free (use := use) rfl hs (closure_ok hfree) ok.kind (fun y hy e => by rw [ok.uniq y hy, e]) (thn (hi.run pins s σ H _ I h) fun xv s1 hx => thn hx fun itv s2 walk => ?_)
  obtain ⟨it, fp, tn, J, H2, rfl, I2, T, st2, f2, q⟩ := walk
  refine wpAny_newObj_type (newEnv_comp ?_)
  generalize hD : s2.heap.objs.size = D
  have free : H2 D = none := I2.hok.fresh (Nat.le_of_eq hD)
  obtain ⟨Wd, ⟨m0, w0⟩, turn⟩ := q D free
  generalize hs3 : ({ s2 with heap := s2.heap.push { cls := .type "dict", data := .dict #[] } } : Shared) = s3
  have h3 : s3.heap = s2.heap.push { cls := .type "dict", data := .dict #[] } := by rw [← hs3]
  have I3 : Inv X pins σ (upd H2 D (DHO X.prog X.w D [])) s3 := by
    rw [← hs3]
    refine I2.laid (t' := s2.toks) (fun b o e => Heap.get?_push_of_some _ e) (Nat.le_of_eq hD) ?_
    rw [← hD]
    exact dat_nil I2.big
  have low : ∀ b ∈ fp, b < s2.heap.objs.size := fun b hb => let ⟨o, e, _⟩ := T.obj _ _ st2 b hb; Heap.lt_size e
  have f3 : ∀ b ∈ fp, FpOk X pins (upd H2 D (DHO X.prog X.w D [])) b ∧ b < s3.heap.objs.size := fun b hb => by
    have lt := low b hb
    refine ⟨⟨?_, (f2 b hb).2⟩, by rw [h3, Heap.size_push]; exact Nat.lt_succ_of_lt lt⟩
    rw [upd_ne (by rw [← hD]; exact Nat.ne_of_lt lt)]
    exact (f2 b hb).1
  have st3 : tn 0 s3.heap := T.keep _ _ _ st2 fun b _ o e => by rw [h3]; exact Heap.get?_push_of_some _ e
  have I4 := block_start I3 ok hN f3
  generalize hH3 : upd H2 D (DHO X.prog X.w D []) = H3 at I3 I4 w0 f3
  have nfp : ∀ b ∈ fp, H3 b = none := fun b hb => (f3 b hb).1.1
  show codeAny _ _ (.compStart (.DictComp kx vx [⟨tg, iter, ifs, 0⟩] scope pos) 0 (.ref it) (.ref D) (compEnvC scope (cellsFrom (s3.heap.objs.size + 1) scope.names (cloFrom X.env.cells scope.names [])) s3.heap.objs.size X.env)) (compPost (model X.prog X.w) X.A X.xe use Qf (.ref D) s3.heap.objs.size) { s3 with heap := pushCells (s3.heap.push { cls := .type "dict", data := .dict #[] }) scope.names }
  generalize hcl : cellsFrom (s3.heap.objs.size + 1) scope.names (cloFrom X.env.cells scope.names []) = cl at I4 ⊢
  have pg := hg s3 H3 s3.heap.objs.size cl fp
  have pt := ht s3 H3 s3.heap.objs.size cl fp
  have pk := hk s3 H3 s3.heap.objs.size cl fp
  have pe := he s3 H3 s3.heap.objs.size cl fp
  generalize hce : compEnvC scope cl s3.heap.objs.size X.env = ce at I4 pg pt pk pe ⊢
  have locs : ce.locals = s3.heap.objs.size := by subst hce; rfl
  generalize hs4 : ({ s3 with heap := pushCells (s3.heap.push { cls := .type "dict", data := .dict #[] }) scope.names } : Shared) = s4 at I4 ⊢
  have st4 : tn 0 s4.heap := T.keep _ _ _ st3 fun b _ o e => by rw [← hs4]; exact pushCells_keeps _ _ _ _ (Heap.get?_push_of_some _ e)
  have held : ∀ {σ' : L2.St} {H' : Hp} {s' : Shared}, Inv (X.blk s3 H3 scope ce fp) [] σ' H' s' → (∀ b ∈ fp, H' b = none) → ∀ b ∈ fp, FpOk (X.blk s3 H3 scope ce fp) [] H' b := fun I' hn b hb =>
    ⟨hn b hb, (I'.ok.exf b hb).1, I'.ok.exfs b hb, .inl hb, fun x c e => (I'.ok.exf b hb).2 x c e, fun p hp => absurd (show p ∈ ([] : List (Addr × Obj)) ++ [] from hp) (by simp)⟩
  refine codeAny_compStart_dict ?loop (T.self X.A 0 _ _ _ st4 ?loop)
  refine compLoop_anyD (fun n s' => ∃ i H', Inv (X.blk s3 H3 scope ce fp) [] (wipe σ (own.map (·.2))) H' s' ∧ tn i s'.heap ∧ (∀ b ∈ fp, H' b = none) ∧ Wd i n H') ?_ m0 ⟨0, H3, I4, st4, nfp, w0⟩
  rintro n s5 ⟨i, H5, I5, st5, n5, w5⟩
  rcases turn i n H5 w5 with ⟨stop, last⟩ | ⟨go, Nx, hNx, step⟩
  · refine thnF (T.done (X.blk s3 H3 scope ce fp) rfl rfl rfl hc i [] s5 _ H5 (fun _ _ => False) I5 (held I5 n5) st5 stop) fun r s6 ⟨hr, I6⟩ => ?_
    subst hr
    have I7 : Inv X pins σ H5 s6 := I3.call' (ch := fp) I6.os I6.base I6.hok I6.bare fun b hb => ⟨(f3 b hb).1.2.2.2.1, (f3 b hb).1.2.1, (f3 b hb).1.2.2.2.2.1, (f3 b hb).1.2.2.2.2.2⟩
    have gone : H5 s3.heap.objs.size = none := by
      have z : H5 ce.locals = none := I6.free
      rwa [locs] at z
    obtain ⟨m, hn, _⟩ := I6.loc
    have hn : s6.heap.Ns ce.locals m := hn
    rw [locs] at hn
    exact hend D s3.heap.objs.size s6 m H5 I7 last hn (I3.fpOk (Nat.le_refl _) gone)
  · refine thnF (T.item (X.blk s3 H3 scope ce fp) rfl rfl rfl hc i [] s5 _ H5 (fun _ _ => False) I5 (held I5 n5) st5 go) fun r s6 ⟨u, hr, h6⟩ => ?_
    subst hr
    refine thnF h6 fun _ s7 ⟨x, H7, I7, r7, y7, st7, n7⟩ => ?_
    have I7' := I7.pinned (held I7 n7) (T.obj _ _ st7)
    refine thnF (pg.run _ s7 _ H7 x u _ I7' r7 (step x H7 y7)) fun _ s8 ⟨σ8, H8, I8, hw8, q8⟩ => ?_
    refine thnF (pt.run _ s8 σ8 H8 _ I8 q8) fun b s9 ⟨H9, I9, q9⟩ => ?_
    have over : ∀ {s' : Shared} {H' : Hp}, Inv (X.blk s3 H3 scope ce fp) ([] ++ pinsAt fp s7.heap) σ8 H' s' → Nx H' → ∃ m, m < n ∧ ∃ i H', Inv (X.blk s3 H3 scope ce fp) [] (wipe σ (own.map (·.2))) H' s' ∧ tn i s'.heap ∧ (∀ b ∈ fp, H' b = none) ∧ Wd i m H' := fun {s' H'} I' nx => by
      obtain ⟨m', hm, w'⟩ := hNx H' nx
      have fixed : ∀ b ∈ fp, ∀ o, s7.heap.get? b = some o → s'.heap.get? b = some o ∧ H' b = none := fun b hb o e => by
        have z := I'.pin (b, o) (List.mem_append_right _ (List.mem_append_right _ (mem_pinsAt hb e)))
        exact ⟨z.1, z.2.1⟩
      refine ⟨m', hm, i + 1, H', (I'.unpinned (pins := [])).weak (by rw [← hw8, wipe_length]) (fun j v e => ?_), T.keep _ _ _ st7 fun b hb o e => (fixed b hb o e).1, fun b hb => ?_, w'⟩
      · rw [← hw8] at e
        exact (wipe_some e).1
      · obtain ⟨o, e, _⟩ := T.obj _ _ st7 b hb
        exact (fixed b hb o e).2
    cases b with
    | false =>
      simp only [Bool.false_eq_true, if_false] at q9 ⊢
      exact over I9 q9
    | true =>
      simp only [if_true] at q9 ⊢
      refine thnF (pk.run _ s9 σ8 H9 _ I9 q9) fun z s10 ⟨yk, H10, I10, r10, q10⟩ => ?_
      refine thnF (pe.run _ s10 σ8 H10 _ I10 q10) fun z2 s11 ⟨yv, H11, I11, r11, es, k, b, ek, d11, k11, l11, nx⟩ => ?_
      subst ek
      cases (show z = Value.ref b from r10)
      exact set_keyN (X := X.blk s3 H3 scope ce fp) hu I11 d11 k11 l11 r11 fun s12 I12 => over I12 nx
theorem pe_dcN {kx vx tg iter : Expr} {ifs : List Expr} {scope : Scope} {own : List (Str × Nat)} {pos : Pos} {wi : TI} {g : TG} {tt : TT} {tk tv : TE} (hc : X.calm = true) (hu : X.A.units + 64 < cLine) (hN : X.N.Nodup) (hi : PI X tg iter wi) (ok : BlkOk X.N X.env.scope scope own)
    (hg : ∀ (s : Shared) (H : Hp) (C : Addr) (cl : List (Str × Addr)) (fp : List Addr), PG (X.blk s H scope (compEnvC scope cl C X.env) fp) tg g)
    (ht : ∀ (s : Shared) (H : Hp) (C : Addr) (cl : List (Str × Addr)) (fp : List Addr), PTs (X.blk s H scope (compEnvC scope cl C X.env) fp) ifs tt)
    (hk : ∀ (s : Shared) (H : Hp) (C : Addr) (cl : List (Str × Addr)) (fp : List Addr), PE (X.blk s H scope (compEnvC scope cl C X.env) fp) kx tk)
    (he : ∀ (s : Shared) (H : Hp) (C : Addr) (cl : List (Str × Addr)) (fp : List Addr), PE (X.blk s H scope (compEnvC scope cl C X.env) fp) vx tv) (hs : ∀ x, foldedSetIterable iter X.env x = pure x := by intro _; rfl) :
    PE X (.DictComp kx vx [⟨tg, iter, ifs, 0⟩] scope pos) (tDcN X wi g tt tk tv (own.map (·.2))) := by
  refine ⟨fun pins s σ H Q I h => ?_⟩
  rw [arm_eval_DictComp]
  refine dc_coreN hc hu hN I hi ok hg ht hk he hs h fun D C s' m H' I' q hn f => ⟨m, hn, fun h'' sb => ⟨.ref D, H', ?_, rfl, q⟩⟩
  obtain ⟨f0, f1, f2, f3, f4, f5⟩ := f
  exact I'.turned (t' := s'.toks) (fun b o hb e => (sb.2 b hb).trans e) f0 f1 f3 f4 f5
end
section
variable {cm : Nat → Option Addr} {X : Cx} {W : WX} {pos : Pos}
theorem w_dc {own : List (Str × Nat)} {w : AM} {g : GM} {ol : List Nat} {t : BM} {ek ev : EM} (ho : ∀ j ∈ ol, j ∈ own.map (·.2)) (gp : ∀ p ρ st z, g p ρ st = some z → z.2 = st) {σ : L2.St} {H : Hp} {Q : VK} (h0 : tE (cnOf X cm) W (eDc w (own.map (·.2)) g t ek ev) σ H Q) :
    tDcN X (tI (cnOf X cm) W w) (tGp (cnOf X cm) ol g) (tT (cnOf X cm) W0 t) (tE (cnOf X cm) W0 ek) (tE (cnOf X cm) W0 ev) (own.map (·.2)) σ H Q := by
  obtain ⟨B, ρ, st, G, R, h⟩ := h0
  refine ⟨B, ρ, st, G, R, Out.bindR early_E R h fun xs st1 H1 G1 J s1 R1 wk h1 => fun D hD => ?_⟩
  have nf := R1.toSRel.notFz hD
  have ni := R1.toSRel.notIo hD
  refine ⟨fun i k H' => k = xs.length - i ∧ i ≤ xs.length ∧ ∃ (ks vs : List PV) (es : List DE) (st' : Store) (G' : Gh), Stp G1 H1 G' H' ∧ SRel (cnOf X cm) H' st' G' ∧ H' D = some (DHO X.prog X.w D es) ∧ (es.map fun e => e.1).Nodup ∧ ks.map kd = es.map (fun e => some e.1) ∧
      RepVs (cnOf X cm) G' (es.map fun e => V.ref e.2.1) ks ∧ RepVs (cnOf X cm) G' (es.map fun e => e.2.2) vs ∧ G'.fz D = none ∧ D ∉ G'.io ∧
      Out (cnOf X cm) (rpE (cnOf X cm)) G1 H1 Q (fun cls d H' => W cls d σ H') (dcGo g t ek ev (wipeE ρ (own.map (·.2))) (xs.drop i) ks vs st'),
    ⟨_, rfl, Nat.zero_le _, [], [], [], st1, G1, (Stp.refl G1 H1).updOut hD, R1.toSRel.updOut nf ni, upd_same, List.nodup_nil, rfl, .nil, .nil, nf, ni, h1⟩, ?_⟩
  rintro i k H2 ⟨rfl, hi, ks, vs, es, st2, G2, s2, S2, hD2, nd, em, rk, rv, n1, n2, h2⟩
  obtain ⟨wgo, wstop⟩ := wk i H2 G2 st2 s2.toGExt S2
  by_cases hlt : i < xs.length
  · refine .inr ?_
    obtain ⟨go, y⟩ := wgo _ (List.getElem?_eq_getElem hlt)
    rw [List.drop_eq_getElem_cons hlt] at h2
    refine ⟨go, fun H' => ∃ (ks vs : List PV) (es : List DE) (st' : Store) (G' : Gh), Stp G1 H1 G' H' ∧ SRel (cnOf X cm) H' st' G' ∧ H' D = some (DHO X.prog X.w D es) ∧ (es.map fun e => e.1).Nodup ∧ ks.map kd = es.map (fun e => some e.1) ∧
      RepVs (cnOf X cm) G' (es.map fun e => V.ref e.2.1) ks ∧ RepVs (cnOf X cm) G' (es.map fun e => e.2.2) vs ∧ G'.fz D = none ∧ D ∉ G'.io ∧
      Out (cnOf X cm) (rpE (cnOf X cm)) G1 H1 Q (fun cls d H' => W cls d σ H') (dcGo g t ek ev (wipeE ρ (own.map (·.2))) (xs.drop (i + 1)) ks vs st'), fun H' q => ⟨_, by omega, rfl, hlt, q⟩, fun v H3 hy => ?_⟩
    obtain ⟨G3, s3, S3, r3⟩ := y v H3 hy
    have s13 := s2.trans s3
    have R3 := (R1.step s13 S3).wipe (own.map (·.2))
    unfold dcGo at h2
    cases eg : g xs[i] (wipeE ρ (own.map (·.2))) st2 with
    | none => rw [eg] at h2; exact h2.elim
    | some z =>
      obtain ⟨ρ4, st4⟩ := z
      have est : st4 = st2 := gp xs[i] _ st2 _ eg
      subst est
      rw [eg] at h2
      simp only at h2
      refine ⟨B, _, _, G3, xs[i], R3, r3, ρ4, eg, fun σ4 l4 k4 R4 => ⟨wipe_eq ho l4 k4, B, ρ4, st4, G3, R4, ?_⟩⟩
      cases et : t ρ4 st4 with
      | bad => rw [et] at h2; exact h2
      | ex _ _ _ _ => rw [et] at h2; exact h2.elim
      | ok kk st5 =>
        rw [et] at h2
        intro H5 G5 b s5 S5 eb
        subst eb
        have s15 := s13.trans s5
        have hD3 := s3.keep _ _ hD2 n2
        have m1 := s3.nfz _ _ hD2 n1
        have m2 := s3.nio _ _ hD2 n2
        have hD5 := s5.keep _ _ hD3 m2
        have p1 := s5.nfz _ _ hD3 m1
        have p2 := s5.nio _ _ hD3 m2
        have rk5 := (rk.up s3.toGExt).up s5.toGExt
        have rv5 := (rv.up s3.toGExt).up s5.toGExt
        cases b with
        | false =>
          rw [if_neg Bool.false_ne_true]
          exact ⟨ks, vs, es, st5, G5, s15, S5, hD5, nd, em, rk5, rv5, p1, p2, h2⟩
        | true =>
          rw [if_pos rfl]
          refine ⟨B, ρ4, st5, G5, R4.step s5 S5, ?_⟩
          have h2 : Out (cnOf X cm) (rpE (cnOf X cm)) G1 H1 Q (fun cls d H' => W cls d σ H') ((ek ρ4 st5).noex.bind fun k st3 => (ev ρ4 st3).noex.bind fun v st4 =>
              (if kok k && decide (ks.length < lim) then dcGo g t ek ev (wipeE ρ (own.map (·.2))) (xs.drop (i + 1)) (dPut k v ks vs).1 (dPut k v ks vs).2 st4 else .bad)) := h2
          cases ee : ek ρ4 st5 with
          | bad => rw [ee] at h2; exact h2
          | ex _ _ _ _ => rw [ee] at h2; exact h2.elim
          | ok p st6 =>
            rw [ee] at h2
            intro H6 G6 v6 s6 S6 r6
            refine ⟨B, ρ4, st6, G6, (R4.step s5 S5).step s6 S6, ?_⟩
            have h2 : Out (cnOf X cm) (rpE (cnOf X cm)) G1 H1 Q (fun cls d H' => W cls d σ H') ((ev ρ4 st6).noex.bind fun v st4 =>
              (if kok p && decide (ks.length < lim) then dcGo g t ek ev (wipeE ρ (own.map (·.2))) (xs.drop (i + 1)) (dPut p v ks vs).1 (dPut p v ks vs).2 st4 else .bad)) := h2
            cases ew : ev ρ4 st6 with
            | bad => rw [ew] at h2; exact h2
            | ex _ _ _ _ => rw [ew] at h2; exact h2.elim
            | ok q st7 =>
              rw [ew] at h2
              intro H7 G7 v7 s7 S7 r7
              have s57 := s6.trans s7
              have hD7 := s57.keep _ _ hD5 p2
              have q1 := s57.nfz _ _ hD5 p1
              have q2 := s57.nio _ _ hD5 p2
              have h2 : Out (cnOf X cm) (rpE (cnOf X cm)) G1 H1 Q (fun cls d H' => W cls d σ H') (if kok p && decide (ks.length < lim) then dcGo g t ek ev (wipeE ρ (own.map (·.2))) (xs.drop (i + 1)) (dPut p q ks vs).1 (dPut p q ks vs).2 st7 else .bad) := h2
              by_cases hb : (kok p && decide (ks.length < lim)) = true
              · rw [if_pos hb] at h2
                obtain ⟨b1, b2⟩ := Bool.and_eq_true_iff.mp hb
                have r6' := r6.up s7.toGExt
                obtain ⟨b, k, ey, ekd, kh⟩ := key_rep S7 r6' b1
                subst ey
                have rk7 := rk5.up s57.toGExt
                have rv7 := rv5.up s57.toGExt
                obtain ⟨d1, d2, d3⟩ := dput_rep ekd r6' r7 nd em rk7 rv7
                have hl : ks.length = es.length := by
                  have := congrArg List.length em
                  simpa using this
                refine ⟨es, k, b, rfl, ⟨hD7, keysH_of S7 em rk7⟩, kh, ?_, (dPut p q ks vs).1, (dPut p q ks vs).2, stE es k b v7, st7, G7, ((s15.trans s57).updOut hD), S7.updOut q1 q2, upd_same, stE_nodup nd, d1, d2, d3, q1, q2, h2⟩
                rw [← hl]
                exact Nat.lt_of_lt_of_le (of_decide_eq_true b2) (by decide)
              · rw [if_neg hb] at h2
                exact h2.elim
  · refine .inl ?_
    have e : i = xs.length := by omega
    subst e
    rw [List.drop_length] at h2
    refine ⟨wstop rfl, ?_⟩
    obtain ⟨S3, s3, ext⟩ := frzOld s2 S2 hD2 n1 n2 hD
    exact h2 H2 _ (.ref D) s3 S3 (.dct (by show upd G2.fz D _ D = _; exact upd_same) em (rk.up ext) (rv.up ext))
theorem ce_dc {kx vx tg iter : Expr} {ifs : List Expr} {scope : Scope} {own : List (Str × Nat)} {w : AM} {g : GM} {ol : List Nat} {t : BM} {ek ev : EM} {k : Nat} (hr : Room k X.A) (hc : X.calm = true) (hN : X.N.Nodup) (hi : CI cm X W w tg iter) (ok : BlkOk X.N X.env.scope scope own) (ho : ∀ j ∈ ol, j ∈ own.map (·.2))
    (hg : ∀ (s : Shared) (H : Hp) (C : Addr) (cl : List (Str × Addr)) (fp : List Addr), CGp cm (X.blk s H scope (compEnvC scope cl C X.env) fp) ol g tg)
    (ht : ∀ (s : Shared) (H : Hp) (C : Addr) (cl : List (Str × Addr)) (fp : List Addr), CTs cm (X.blk s H scope (compEnvC scope cl C X.env) fp) t ifs)
    (hk : ∀ (s : Shared) (H : Hp) (C : Addr) (cl : List (Str × Addr)) (fp : List Addr), CE cm (X.blk s H scope (compEnvC scope cl C X.env) fp) W0 ek kx)
    (he : ∀ (s : Shared) (H : Hp) (C : Addr) (cl : List (Str × Addr)) (fp : List Addr), CE cm (X.blk s H scope (compEnvC scope cl C X.env) fp) W0 ev vx) (hs : ∀ x, foldedSetIterable iter X.env x = pure x := by intro _; rfl) :
    CE cm X W (eDc w (own.map (·.2)) g t ek ev) (.DictComp kx vx [⟨tg, iter, ifs, 0⟩] scope pos) :=
  PE.weak (pe_dcN (g := tGp (cnOf X cm) ol g) (tt := tT (cnOf X cm) W0 t) (tk := tE (cnOf X cm) W0 ek) (tv := tE (cnOf X cm) W0 ev) hc hr.units hN hi ok (fun s H C cl fp => (hg s H C cl fp).run) ht hk he hs) fun σ H Q h => w_dc ho (hg X.s_0 H X.env.locals [] []).pure h
end
end BR
set_option Elab.async false
set_option linter.all false
set_option maxRecDepth 100000
set_option maxHeartbeats 4000000
/-! BrU: dict(pairs), list(d). -/
namespace BR
open PySem PySem.Spec PyProof.Rows L2
/-! ### list(d) -/
theorem src_raw {prog : Program} {w : World} {d : Addr} {tab : Array DictEntry} {ep : Nat} (lo : (d == sysModules) = false) : PySem.W.KdlSrc prog w "dict" d d tab.size (fun i v => ∃ hi : i < tab.size, v = tab[i].key) (fun h => h.DictRaw d tab ep) where
  type := fun _ hm => hm.typeIs
  there := fun _ hm => by
    obtain ⟨o, ho, _⟩ := hm
    exact ⟨Heap.lt_size ho, Heap.lt_size ho⟩
  keep := fun _ _ hm hk => hm.at fun o e => hk d (.inl rfl) o e
  notList := by decide
  notTuple := by decide
  hint := fun _ _ _ _ hm hq => PySem.W.kdl_hint_dict hm.typeIs hq
  iter := fun _ s hh hm => by
    have lt : d < s.heap.objs.size := by
      obtain ⟨o, ho, _⟩ := id hm
      exact Heap.lt_size ho
    exact ⟨_, _, (fun _ _ hq => wpAny_pyIter_dict_raw lo hm hq), Walks.rawKeys hh _ d (Nat.ne_of_lt lt) tab ep, ⟨⟨_, Heap.get?_push_size _ rfl, rfl, rfl⟩, hm.at fun o e => Heap.get?_push_of_some _ e⟩⟩
theorem deok_refs : ∀ {es : List DE} {xs : List (NestedKey × Addr × Value)}, Paired DEOk es xs → Vals (es.map fun e => V.ref e.2.1) (xs.map fun x => Value.ref x.2.1)
  | _, _, .nil => .nil
  | _, _, .cons (a := e) (b := x) h t => .cons (by show Value.ref x.2.1 = Value.ref e.2.1; rw [h.2.1]) (deok_refs t)
def rListD (P : Program) (w : World) : List V → Hp → VK → Prop := fun xs H Q => ∃ a es, xs = [.ref a] ∧ H a = some (DHO P w a es) ∧ ∀ l, H l = none → Q (.ref l) (upd H l (.lst (es.map fun e => V.ref e.2.1)))
theorem call_listD {X : Cx} (hc : X.calm = true) : CallR X (.type "list") (rListD X.prog X.w) := by
  intro pins s σ H xs us Q I r h
  obtain ⟨a, es, rfl, ha, q⟩ := h
  obtain ⟨u, rfl, rx⟩ := vals1 r
  cases rx
  obtain ⟨d1, d2, d3, xs, rel, o, tab, ep, ho, hx, hd, he⟩ := don_of I ha
  have hl : tab.size = xs.length := size_of_entries he
  have hz : es.length = xs.length := rel.length
  refine PySem.W.kdl_call (src_raw (tab := tab) (ep := ep) d1) (I.ok.hd hc) ⟨o, ho, hx, hd⟩ (by rw [hl, ← hz]; exact d2) fun h' tk acc c' hk hD hacc => ?_
  have eacc : acc.toList = xs.map fun x => Value.ref x.2.1 := by
    refine List.ext_getElem? fun j => ?_
    rw [Array.getElem?_toList, List.getElem?_map]
    cases e : acc[j]? with
    | none =>
      have : acc.size ≤ j := by
        rcases Nat.lt_or_ge j acc.size with q1 | q1
        · rw [Array.getElem?_eq_getElem q1] at e; cases e
        · exact q1
      rw [List.getElem?_eq_none (by rw [← hl, ← hacc.1]; exact this)]
      rfl
    | some v =>
      obtain ⟨hi, rfl⟩ := hacc.2 j v e
      have z := entry_at he j
      rw [Array.getElem?_eq_getElem hi] at z
      cases ex : xs[j]? with
      | none => rw [ex] at z; cases z
      | some x =>
        rw [ex] at z
        have z' : tab[j] = entryOfKey (nestedKind X.prog X.w) x := Option.some.inj z
        rw [z']
        rfl
  have new : ObjOk X.prog X.w (upd H s.heap.objs.size (.lst (es.map fun e => V.ref e.2.1))) h' s.heap.objs.size (.lst (es.map fun e => V.ref e.2.1)) := by
    refine ⟨by rw [List.length_map]; exact d2, acc.toList, c', ?_, by rw [Array.toArray_toList]; exact hD⟩
    rw [eacc]
    exact deok_refs rel
  exact ⟨.ref s.heap.objs.size, _, I.laid (t' := tk) hk (Nat.le_refl _) new, rfl, q _ (I.hok.fresh (Nat.le_refl _))⟩
/-- list(d) of such a dict: a new list of its keys -/
def fListD (m : EM) : FM := fun ρ st => (m ρ st).bind fun p st1 => match p with
  | .dct ks _ => .ok (.own ks) st1
  | _ => .bad
section
variable {cm : Nat → Option Addr} {X : Cx} {W : WX} {pos p : Pos} {m : EM} {e : Expr}
theorem cf_listD (hc : X.calm = true) (hm : X.mg "list" = none) (he : CE cm X W m e) (hg : Gl X "list" := by rfl) (hb : bootBuiltins "list" = some (.type "list") := by decide +kernel) (hs : starEach [e] X.env = (false, eval e X.env) :: starEach [] X.env := by rfl) : CF cm X W (fListD m) (.Call (.Name "list" p) [e] [] pos) :=
  PE.weak (pe_callTy (call_listD hc) hg hm hb (pa_cons he pa_nil hs) (by decide) (by decide) hs) fun σ H Q ⟨B, ρ, st, G, R, h⟩ => ⟨B, ρ, st, G, R, Out.bindR early_F R h fun p st1 H1 G1 x s1 R1 rx h1 => by
    cases rx with
    | @dct a es ks vs h1' h2 h3 h4 =>
      refine ⟨a, es, rfl, R1.toSRel.fzH _ _ h1', fun l hl => ?_⟩
      obtain ⟨S2, s2⟩ := R1.toSRel.fresh (o := .lst (es.map fun e => V.ref e.2.1)) hl
      exact h1 _ _ _ s2 S2 ⟨l, _, rfl, upd_same, h3, R1.toSRel.notFz hl, R1.toSRel.notIo hl, hl⟩
    | _ => exact h1.elim⟩
end
/-! ### dict(pairs) -/
def stAll (acc es : List DE) : List DE := es.foldl (fun acc e => stE acc e.1 e.2.1 e.2.2) acc
theorem deok_all : ∀ {es : List DE} {xs : List (NestedKey × Addr × Value)} {acc : List DE} {ac : List (NestedKey × Addr × Value)}, Paired DEOk es xs → Paired DEOk acc ac → Paired DEOk (stAll acc es) (storedAllH ac xs)
  | _, _, _, _, .nil, r => r
  | _, _, acc, ac, .cons (a := e) (b := x) h t, r => by
    show Paired DEOk (stAll (stE acc e.1 e.2.1 e.2.2) _) (storedAllH (storedH ac x.1 x.2.1 x.2.2) _)
    refine deok_all t ?_
    rw [h.1, h.2.1]
    exact deok_put h.2.2 r
/-- where the pairs stand, what they are -/
def PairH (P : Program) (w : World) (K : PySem.W.Frag) (H : Hp) (T : Addr) (e : DE) : Prop := SqT K H T [.ref e.2.1, e.2.2] ∧ KeyH P w K H e.1 e.2.1
def rDictN (P : Program) (w : World) (K : PySem.W.Frag) : List V → Hp → VK → Prop := fun xs H Q => ∃ (a : Addr) (Ts : List Addr) (es : List DE), xs = [.ref a] ∧ (SqL K H a (Ts.map V.ref) ∨ ∃ o : Obj, H a = some (tupO o (Ts.map V.ref)) ∧ o.dict = none) ∧ Paired (PairH P w K H) Ts es ∧
  ∀ p, H p = none → Q (.ref p) (upd H p (DHO P w p (stAll [] es)))
theorem pairs_there {X : Cx} {pins : List (Addr × Obj)} {σ : L2.St} {H : Hp} {s : Shared} (I : Inv X pins σ H s) : ∀ {Ts : List Addr} {es : List DE}, Paired (PairH X.prog X.w X.K H) Ts es → ∃ xs : List (NestedKey × Addr × Value), Paired DEOk es xs ∧ xs.length = Ts.length ∧
    ∀ (j : Nat) (x : NestedKey × Addr × Value), xs[j]? = some x → ∃ T, Ts[j]? = some T ∧ s.heap.IsTuple T #[.ref x.2.1, x.2.2] ∧ (nestedKind X.prog X.w).is s.heap x.1 x.2.1
  | _, _, .nil => ⟨[], .nil, rfl, fun j x h => by simp at h⟩
  | _, _, .cons (a := T) (b := e) h t => by
    obtain ⟨xs, h1, h2, h3⟩ := pairs_there I t
    obtain ⟨its, rv, p, _⟩ := I.tuple h.1
    obtain ⟨u1, u2, rfl, r1, r2⟩ := vals2 rv
    cases (show u1 = Value.ref e.2.1 from r1)
    refine ⟨(e.1, e.2.1, u2) :: xs, .cons ⟨rfl, rfl, r2⟩ h1, by simp [h2], fun j x hx => ?_⟩
    cases j with
    | zero =>
      cases (show some (e.1, e.2.1, u2) = some x from hx)
      exact ⟨T, rfl, p, h.2 _ I.hok I.kIn⟩
    | succ j => exact h3 j x hx
theorem call_dictN {X : Cx} {k : Nat} (hr : Room k X.A) : CallR X (.type "dict") (rDictN X.prog X.w X.K) := by
  intro pins s σ H xs us Q I r h
  obtain ⟨a, Ts, es, rfl, hq, hp, q⟩ := h
  obtain ⟨u, rfl, rx⟩ := vals1 r
  cases rx
  obtain ⟨xs, rel, hl, there⟩ := pairs_there I hp
  have fin : ∀ (T : String) (items : Array Value), items.toList = Ts.map Value.ref → Ts.length ≤ sizeLine →
      (∀ Tf ps, PairArg X.prog X.w T a (a :: (List.range ps.length).map Tf) [] ps.length (PairRel ps) (fun h => PlainSeq T h a items ∧ PairItems h items Tf ps)) → PlainSeq T s.heap a items → wpAny (model X.prog X.w) X.A (call (.type "dict") [.ref a]) (EP X pins σ Q) X.xe s := by
    intro T items ei hz arg plain
    have iz : items.size = Ts.length := by rw [← Array.length_toList, ei, List.length_map]
    refine call_dict_pairsH (knd := nestedKind X.prog X.w) (ps := xs) (arg (fun j => (Ts[j]?).getD 0) (xs.map fun x => (Value.ref x.2.1, x.2.2))) hr.hd (room8 hr.units).2.2 ⟨plain, ?_, ?_⟩ ⟨?_, ?_⟩ ?_ ?_ fun h' tk dd keep => ?_
    · rw [List.length_map, iz, hl]
    · intro j kk v e
      rw [List.getElem?_map] at e
      cases ex : xs[j]? with
      | none => rw [ex] at e; cases e
      | some x =>
        rw [ex] at e
        cases e
        obtain ⟨T', eT, ht, _⟩ := there j x ex
        show items[j]? = some (Value.ref ((Ts[j]?).getD 0)) ∧ PairAt s.heap ((Ts[j]?).getD 0) _ _
        rw [eT]
        refine ⟨?_, .inl ht⟩
        rw [← Array.getElem?_toList, ei, List.getElem?_map, eT]
        rfl
    · simp
    · intro i key v e
      have e : (xs.map fun x => (Value.ref x.2.1, x.2.2))[i]? = some (key, v) := e
      rw [List.getElem?_map] at e
      cases ex : xs[i]? with
      | none => rw [ex] at e; cases e
      | some x =>
        rw [ex] at e
        cases e
        exact ⟨x.1, x.2.1, rfl, rfl⟩
    · intro h' hk x hx
      obtain ⟨j, hj⟩ := List.mem_iff_getElem?.mp hx
      obtain ⟨_, _, _, hi⟩ := there j x hj
      exact ⟨NestedIs.at (fun b o vs n e _ => hk b o (Nat.ne_of_lt (Heap.lt_size e)) List.not_mem_nil e) _ _ hi.1, hi.2⟩
    · rw [List.length_map, hl]; exact hz
    · have hsys : (s.heap.objs.size == sysModules) = false := beq_eq_false_iff_ne.mpr (Nat.ne_of_gt I.big)
      have le : (stAll [] es).length ≤ sizeLine := by
        rw [(deok_all rel (.nil : Paired DEOk [] [])).length]
        refine Nat.le_trans (storedAllH_length xs []) ?_
        rw [List.length_nil, Nat.zero_add, hl]
        exact hz
      exact ⟨.ref s.heap.objs.size, _, I.laid (t' := tk) (fun b o e => keep b o List.not_mem_nil e) (Nat.le_refl _) (don_ok (don_make hsys le (deok_all rel .nil) dd)), rfl, q _ (I.hok.fresh (Nat.le_refl _))⟩
  rcases hq with hq | ⟨o, ho, hd⟩
  · obtain ⟨its, rv, pl, hz⟩ := I.list hq
    obtain ⟨o, n, ho, hc, hd, hdat⟩ := pl
    have ei := refs_at rv
    exact fin "list" its.toArray (by simp [ei]) (by rw [List.length_map] at hz; exact hz) (fun Tf ps => PairArg.list a _ Tf ps) ⟨o, n, ho, hc, hd, hdat⟩
  · obtain ⟨hg, hz, its, rv, o', ho', hc, n, hdat⟩ := (show ObjOk X.prog X.w H s.heap a (tupO o (Ts.map V.ref)) from I.hok a _ ho)
    have eo : o' = o := Option.some.inj (ho'.symm.trans hg)
    subst eo
    have ei := refs_at rv
    exact fin "tuple" its.toArray (by simp [ei]) (by rw [List.length_map] at hz; exact hz) (fun Tf ps => PairArg.tuple a _ Tf ps) ⟨o', n, ho', hc, hd, hdat⟩
/-! the evaluator -/
def dOf : List PV → List PV → List PV → Option (List PV × List PV)
  | [], ks, vs => some (ks, vs)
  | x :: xs, ks, vs => match x with
    | .tup [k, v] => if kok k then dOf xs (dPut k v ks vs).1 (dPut k v ks vs).2 else none
    | _ => none
def nDict : List PV → Option PV
  | [.tup xs] => (dOf xs [] []).map fun r => .dct r.1 r.2
  | [.lst xs] => (dOf xs [] []).map fun r => .dct r.1 r.2
  | _ => none
/-- the entries are what the evaluator has -/
structure DRep (c : Cn) (G : Gh) (es : List DE) (ks vs : List PV) : Prop where
  nd : (es.map fun e => e.1).Nodup
  key : ks.map kd = es.map (fun e => some e.1)
  rk : RepVs c G (es.map fun e => V.ref e.2.1) ks
  rv : RepVs c G (es.map fun e => e.2.2) vs
theorem dOf_rep {cm : Nat → Option Addr} {X : Cx} {H : Hp} {st : Store} {G : Gh} (S : SRel (cnOf X cm) H st G) : ∀ {xs : List PV} {us : List V} {acc : List DE} {ks vs : List PV} {z : List PV × List PV}, RepVs (cnOf X cm) G us xs → DRep (cnOf X cm) G acc ks vs → dOf xs ks vs = some z →
    ∃ (Ts : List Addr) (es : List DE), us = Ts.map V.ref ∧ Paired (PairH X.prog X.w X.K H) Ts es ∧ DRep (cnOf X cm) G (stAll acc es) z.1 z.2
  | [], _, acc, ks, vs, z, r, d, h => by
    cases r
    cases h
    exact ⟨[], [], rfl, .nil, d⟩
  | x :: xs, _, acc, ks, vs, z, r, d, h => by
    cases r with
    | @cons u _ us _ r1 r2 =>
      cases x with
      | tup l =>
        match l, h, r1 with
        | [k, v], h, r1 =>
          obtain ⟨hk, h'⟩ := ite_some (show (if kok k = true then dOf xs (dPut k v ks vs).1 (dPut k v ks vs).2 else none) = some z from h)
          cases r1 with
          | @tup T ws _ ht rt =>
            cases rt with
            | @cons u1 _ w1 _ a1 a2 =>
              cases a2 with
              | @cons u2 _ w2 _ b1 b2 =>
                cases b2
                obtain ⟨b, kk, eb, ek, kh⟩ := key_rep S a1 hk
                subst eb
                obtain ⟨d1, d2, d3⟩ := dput_rep ek a1 b1 d.nd d.key d.rk d.rv
                obtain ⟨Ts, es, e1, e2, e3⟩ := dOf_rep S r2 ⟨stE_nodup d.nd, d1, d2, d3⟩ h'
                exact ⟨T :: Ts, (kk, b, u2) :: es, by rw [List.map_cons, e1], .cons ⟨S.sqT ht, kh⟩ e2, e3⟩
        | [], h, _ => cases h
        | [_], h, _ => cases h
        | _ :: _ :: _ :: _, h, _ => cases h
      | _ => cases h
theorem rd_dict {cm : Nat → Option Addr} {X : Cx} : RdN (cnOf X cm) (rDictN X.prog X.w X.K) nDict := by
  intro G H st vs ps z Q S r h kq
  have fin : ∀ {a : Addr} {us : List V} {xs : List PV}, RepVs (cnOf X cm) G us xs → (dOf xs [] []).map (fun r => PV.dct r.1 r.2) = some z → (∀ Ts : List Addr, us = Ts.map V.ref → SqL X.K H a (Ts.map V.ref) ∨ ∃ o : Obj, H a = some (tupO o (Ts.map V.ref)) ∧ o.dict = none) → rDictN X.prog X.w X.K [.ref a] H Q := fun {a us xs} ra e hq => by
    obtain ⟨y, ey, rfl⟩ := map_some e
    obtain ⟨Ts, es, e1, e2, e3⟩ := dOf_rep S ra (⟨List.nodup_nil, rfl, .nil, .nil⟩ : DRep (cnOf X cm) G [] [] []) ey
    refine ⟨a, Ts, es, rfl, hq Ts e1, e2, fun p hp => rd_new S hp ?_ kq⟩
    have ext := up_new (o := DHO X.prog X.w p (stAll [] es)) S hp
    exact .dct (by show upd G.fz p _ p = _; exact upd_same) e3.key (e3.rk.up ext) (e3.rv.up ext)
  match ps, h with
  | [.tup xs], h =>
    obtain ⟨v, rfl, r1⟩ := rep1 r
    cases r1 with
    | @tup a us _ ha ra =>
      obtain ⟨o, h1, h2⟩ := ha
      exact fin ra h fun Ts e => .inr ⟨o, by rw [← e]; exact S.fzH _ _ h1, h2⟩
  | [.lst xs], h =>
    obtain ⟨v, rfl, r1⟩ := rep1 r
    cases r1 with
    | @lst a us _ ha ra => exact fin ra h fun Ts e => .inl (by rw [← e]; exact SqL.of (S.lst ha))
section
variable {cm : Nat → Option Addr} {X : Cx} {W : WX} {pos p : Pos} {m : EM} {e : Expr} {ar : AM}
/-- dict(x), x a list of a name's own -/
def eDictOwn (i : Nat) : EM := fun ρ st => match ρ[i]? with
  | some (.own xs) => R.ofOpt ((dOf xs [] []).map fun r => .dct r.1 r.2) st
  | _ => .bad
end
end BR
set_option Elab.async false
set_option linter.all false
set_option maxRecDepth 100000
set_option maxHeartbeats 4000000
/-! BrV: own operators, own == and len, isinstance of an own class. -/
namespace BR
open PySem PySem.Spec PyProof.Rows L2
open He (ba eqO eqO_ok ga ma)
/-! ### what is told of a class -/
structure FnC (K : PySem.W.Frag) (C g : Addr) (f : Str) : Prop where
  find : PySem.W.findIn K (.ref C) f = some (some (.ref g))
  fn : PySem.W.isFn K (.ref g) = true
structure BinC (K : PySem.W.Frag) (C g : Addr) (nm : String) (Ts : List String) : Prop where
  at_ : FnC K C g (PySem.dunder nm)
  first : PySem.W.selfFirst K C = true
  refl : PySem.W.findIn K (.ref C) (PySem.dunderR nm) = some none
  sub : ∀ T ∈ Ts, PySem.W.subIn K (.type T) (.ref C) = some false
  fo : ∀ T ∈ Ts, ∃ o r, PySem.W.findIn K (.type T) (PySem.dunder nm) = some o ∧ PySem.W.findIn K (.type T) (PySem.dunderR nm) = some r
structure CmpC (K : PySem.W.Frag) (C g : Addr) (f : Str) (Ts : List String) : Prop where
  at_ : FnC K C g f
  sub : ∀ T ∈ Ts, PySem.W.subIn K (.type T) (.ref C) = some false
structure IsiC (K : PySem.W.Frag) (C : Addr) (Ts : List String) : Prop where
  ca : PySem.W.findIn K (.ref C) "__class__" = some (some (.builtin "object.__class__"))
  cn : PySem.W.specialIn K (.builtin "object.__class__") "__get__" = some (some (.builtin "getset_descriptor.__get__"))
  ct : PySem.W.takesIn K (.builtin "object.__class__") = some true
  cm : PySem.W.mroIn K C (.type "object") = some true
  cl : (PySem.W.clsIn K C).isSome = true
  ty : PySem.W.typeIn K (.ref C) = some (.type "type")
  sub : ∀ T ∈ Ts, PySem.W.subIn K (.type T) (.ref C) = some false
section
variable {K : PySem.W.Frag} {x f : Str} {nm : String} {Ts : List String}
theorem fnB_ok (c : fnB K x f = true) : FnC K (ga K x) (ma K (ga K x) f) f := by
  obtain ⟨c1, c2⟩ := ba c
  exact ⟨eqO_ok c1, c2⟩
/-- what the built-in types at the right say is the same in every program -/
def tys : List String := ["NoneType", "int", "str", "tuple", "list", "bool"]
theorem sub_tys (K : PySem.W.Frag) (C : Addr) : ∀ T ∈ tys, PySem.W.subIn K (.type T) (.ref C) = some false := fun T h => by
  have e : ∀ T ∈ tys, ∃ l : List String, fastBuiltinMro T = some (l.map Value.type) := by
    intro T h
    have : T = "NoneType" ∨ T = "int" ∨ T = "str" ∨ T = "tuple" ∨ T = "list" ∨ T = "bool" := by simpa [tys] using h
    rcases this with rfl | rfl | rfl | rfl | rfl | rfl
    · exact ⟨["NoneType", "object"], by kernel_rfl⟩
    · exact ⟨["int", "object"], by kernel_rfl⟩
    · exact ⟨["str", "object"], by kernel_rfl⟩
    · exact ⟨["tuple", "object"], by kernel_rfl⟩
    · exact ⟨["list", "object"], by kernel_rfl⟩
    · exact ⟨["bool", "int", "object"], by kernel_rfl⟩
  obtain ⟨l, hl⟩ := e T h
  show (fastBuiltinMro T).map (·.contains (Value.ref C)) = some false
  rw [hl]
  show some _ = some false
  congr 1
  refine Bool.eq_false_iff.mpr fun z => ?_
  obtain ⟨t, _, q⟩ := List.mem_map.mp (List.contains_iff_mem.mp z)
  cases q
def opNames : List String := ["or", "add", "rshift", "mul"]
theorem fo_tys (K : PySem.W.Frag) : ∀ nm ∈ opNames, ∀ T ∈ tys, ∃ o r, PySem.W.findIn K (.type T) (PySem.dunder nm) = some o ∧ PySem.W.findIn K (.type T) (PySem.dunderR nm) = some r := fun nm hn T hT => by
  have e : ∀ nm ∈ opNames, ∀ T ∈ tys, ((fastLookup T (PySem.dunder nm)).isSome && (fastLookup T (PySem.dunderR nm)).isSome) = true := by
    intro nm hn T hT
    have q1 : T = "NoneType" ∨ T = "int" ∨ T = "str" ∨ T = "tuple" ∨ T = "list" ∨ T = "bool" := by simpa [tys] using hT
    have q2 : nm = "or" ∨ nm = "add" ∨ nm = "rshift" ∨ nm = "mul" := by simpa [opNames] using hn
    clear hn hT
    rcases q1 with rfl | rfl | rfl | rfl | rfl | rfl <;> rcases q2 with rfl | rfl | rfl | rfl <;> kernel_rfl
  obtain ⟨a, b⟩ := ba (e nm hn T hT)
  obtain ⟨o, ho⟩ := Option.isSome_iff_exists.mp a
  obtain ⟨r, hr⟩ := Option.isSome_iff_exists.mp b
  exact ⟨o, r, ho, hr⟩
theorem bin_ok (c : (Fb.bin x nm f).ok K = true) (hn : nm ∈ opNames := by decide) (hT : ∀ T ∈ Ts, T ∈ tys := by decide) : BinC K (ga K x) (ma K (ga K x) f) nm Ts := by
  obtain ⟨c1, c⟩ := ba c
  obtain ⟨c2, c⟩ := ba c
  obtain ⟨c3, c4⟩ := ba c
  have e := of_decide_eq_true c2
  exact ⟨by rw [e]; exact fnB_ok c1, c3, eqO_ok c4, fun T h => sub_tys K _ T (hT T h), fun T h => fo_tys K nm hn T (hT T h)⟩
theorem cmp_ok (c : (Fb.fnc x f).ok K = true) (hT : ∀ T ∈ Ts, T ∈ tys := by decide) : CmpC K (ga K x) (ma K (ga K x) f) f Ts := ⟨fnB_ok c, fun T h => sub_tys K _ T (hT T h)⟩
theorem len_ok (c : (Fb.fnc x "__len__").ok K = true) : FnC K (ga K x) (ma K (ga K x) "__len__") "__len__" := fnB_ok c
theorem isi_ok (c : (Fb.isi x).ok K = true) (hT : ∀ T ∈ Ts, T ∈ tys := by decide) : IsiC K (ga K x) Ts := by
  obtain ⟨c1, c⟩ := ba c
  obtain ⟨c2, c⟩ := ba c
  obtain ⟨c3, c⟩ := ba c
  obtain ⟨c4, c⟩ := ba c
  obtain ⟨c5, c6⟩ := ba c
  exact ⟨eqO_ok c1, eqO_ok c2, of_decide_eq_true c3, of_decide_eq_true c4, c5, of_decide_eq_true c6, fun T h => sub_tys K _ T (hT T h)⟩
end
/-! ### the steps -/
section
variable {prog : Program} {w : World} {A : Around} {E : Value → Shared → Prop} {s : Shared} {K : PySem.W.Frag} {x C L f : Addr} {h₀ : Heap} {m : Str → Option Value} {ox : Obj} {od : Option Obj} {T : String}
/-- own operator, the right side of a built-in type wherever it stands -/
theorem bin_any {op : Operator} {b : Value} {fo ro : Option Value} {Q : Value → Shared → Prop} (F : PyProof.Rows.Fr h₀ L s.heap m) (X₀ : K.In h₀) (I : PySem.W.InstAt s.heap x ox C od) (tb : PySem.W.Looks (model prog w) s.heap (typeOf b) (.type T)) (first : PySem.W.selfFirst K C = true)
    (at_ : FnC K C f (PySem.dunder op.info.2)) (refl : PySem.W.findIn K (.ref C) (PySem.dunderR op.info.2) = some none) (hl : PySem.W.findIn K (.type T) (PySem.dunder op.info.2) = some fo) (hr : PySem.W.findIn K (.type T) (PySem.dunderR op.info.2) = some ro)
    (sub : PySem.W.subIn K (.type T) (.ref C) = some false) (h : wpAny (model prog w) A (call (.ref f) [.ref x, b]) (PySem.W.CmpBack Q) E s) : wpAny (model prog w) A (binaryOp op (.ref x) b) Q E s := by
  have up := X₀.keeps F.keep
  obtain ⟨cd, rest, hcd, hm⟩ := PySem.W.ksp_first first
  rcases info : op.info with ⟨sym, name⟩
  obtain ⟨find, fn⟩ := at_
  rw [info] at find refl hl hr
  dsimp only at find refl hl hr
  have once := PySem.W.ksp_try up I find fn h
  obtain ⟨hh, g, d, tt, os⟩ := s
  have l1 : PySem.W.Looks (model prog w) hh (typeOf (.ref x)) (.ref C) := I.type
  have l2 : PySem.W.Looks (model prog w) hh (typeOf b) (.type T) := tb
  have l3 : PySem.W.Looks (model prog w) hh (fillsNumberSlot (.ref C) name) true := PySem.W.fills_K up hcd hm find
  have l4 : PySem.W.Looks (model prog w) hh (fillsNumberSlot (.type T) name) ((fo.isSome && !isSeqSlot fo) || (ro.isSome && !isSeqSlot ro)) := PySem.W.ksp_fillsT up hl hr
  have l5 : PySem.W.Looks (model prog w) hh (isSubtype (.type T) (.ref C)) false := PySem.W.looks_subIn up sub
  have l6 : PySem.W.Looks (model prog w) hh (numberSlotInPython (.ref C) name) true := PySem.W.ksp_inPy up find refl (.inl rfl)
  have l7 : PySem.W.Looks (model prog w) hh (numberSlotInPython (.type T) name) false := PySem.W.Looks.of_pure rfl
  have l8 : PySem.W.Looks (model prog w) hh (typeLookup (.type T) (PySem.dunderR name)) ro := PySem.W.looks_findIn up hr
  generalize ((fo.isSome && !isSeqSlot fo) || (ro.isSome && !isSeqSlot ro)) = filled at l4
  have ne : (Value.ref C == Value.type T) = false := Bool.eq_false_iff.mpr fun q => by cases beq_iff_eq.mp q
  simp only [binaryOp, info]
  refine wpAny_holding (wpAny_bind ?_)
  unfold binaryOp1
  refine wpAny_bind (l1.at (wpAny_bind (l2.at (wpAny_bind (l3.at ?_)))))
  simp only [ne, Bool.false_eq_true, if_false]
  cases filled <;>
    (ksp_lk
     refine wpAny_mono once (fun r s' hr' => ?_) fun _ _ e => e
     obtain ⟨v, rfl, hq⟩ := hr'
     ksp_lk
     exact hq)
end
section
variable {X : Cx} {pins : List (Addr × Obj)} {σ : L2.St} {H : Hp} {s : Shared} {a C dx : Addr} {fs : List (Str × V)}
theorem inst_at (I : Inv X pins σ H s) (e : H a = some (.ins C dx fs)) : ∃ od, PySem.W.InstAt s.heap a (PySem.W.instObj C dx) C (some od) := by
  obtain ⟨mA, O, _⟩ := ins_get I.hok e
  obtain ⟨od, J, _⟩ := O.look
  exact ⟨od, J⟩
theorem looks_ty {x : V} {u t : Value} (I : Inv X pins σ H s) (rx : RelV x u) (ty : TyX X.K H x t) : PySem.W.Looks (model X.prog X.w) s.heap (typeOf u) t := by
  obtain ⟨P, Z, p, _⟩ := kit_of I rx ty
  exact Z.ty (model X.prog X.w) s.heap I.kIn p
end
/-- what stands at the right: an instance of the class, or of one of the types -/
def RightOk (K : PySem.W.Frag) (C : Addr) (Ts : List String) (H : Hp) (y : V) : Prop := (∃ b dx fs, y = .ref b ∧ H b = some (.ins C dx fs)) ∨ ∃ T ∈ Ts, TyX K H y (.type T)
section
variable {X : Cx} {CX : CXT} {k : Nat} {g C : Addr} {fd : FuncData} {ps : List Str} {sp : Sp} {E : L2.St → XK} {pos p : Pos} {a b : Expr} {ta tb : TE} {Ts : List String}
def tOwn (K : PySem.W.Frag) (C : Addr) (Ts : List String) (sp : Sp) (E : L2.St → XK) (ta tb : TE) : TE := fun σ H Q => ta σ H fun x H1 => tb σ H1 fun y H2 => ∃ a dx fs, x = .ref a ∧ H2 a = some (.ins C dx fs) ∧ RightOk K C Ts H2 y ∧ sp [x, y] H2 Q (E σ)
theorem pe_binOwn {op : Operator} (c : BinC X.K C g op.info.2 Ts) (F : FnOk X.prog X.w X.K X.mg X.base CX k g fd ps sp) (hr : Room k X.A) (hb : Binds X.K fd ps []) (hx : ∀ σ, PassesAt CX X σ (E σ)) (ha : PE X a ta) (hbb : PE X b tb) : PE X (.BinOp a op b pos) (tOwn X.K C Ts sp E ta tb) := by
  refine ⟨fun pins s σ H Q I h => wpAny_BinOp (binT ha hbb I h fun v u s2 x y H2 I2 rx ry q => ?_)⟩
  obtain ⟨a', dx, fs, ex, ea, ok, q⟩ := q
  subst ex
  cases (show v = Value.ref a' from rx)
  obtain ⟨od, J⟩ := inst_at I2 ea
  obtain ⟨m, fr⟩ := I2.fr
  have go : wpAny (model X.prog X.w) X.A (call (.ref g) [.ref a', u]) (PySem.W.CmpBack (EP X pins σ Q)) X.xe s2 :=
    wpAny_mono (run_fnS (us := [.ref a', u]) (vs := [.ref a', y]) F hr hb (hx σ) I2 (.cons rfl (.cons ry .nil)) q) (fun r s' z => by
      obtain ⟨z', H', I', rz, qz⟩ := z
      exact SlX.cmpback rz ⟨z', H', I', rz, qz⟩) fun _ _ e => e
  rcases ok with ⟨b', dy, gs, ey, eb⟩ | ⟨T, hT, ty⟩
  · subst ey
    cases (show u = Value.ref b' from ry)
    obtain ⟨od', J'⟩ := inst_at I2 eb
    exact PySem.W.binop_K fr I2.ok.mod.kin J J'.type c.first c.at_.find c.at_.fn go
  · obtain ⟨fo, ro, h1, h2⟩ := c.fo T hT
    exact bin_any fr I2.ok.mod.kin J (looks_ty I2 ry ty) c.first c.at_ c.refl h1 h2 (c.sub T hT) go
/-- == by an own __eq__ -/
theorem eq_step {pins : List (Addr × Obj)} {s : Shared} {σ : L2.St} {H : Hp} {x y : V} {v u : Value} {Q : VK} (c : CmpC X.K C g "__eq__" Ts) (F : FnOk X.prog X.w X.K X.mg X.base CX k g fd ps sp) (hr : Room k X.A) (hb : Binds X.K fd ps []) (hx : ∀ σ, PassesAt CX X σ (E σ)) (I : Inv X pins σ H s) (rx : RelV x v) (ry : RelV y u)
    (q : ∃ a dx fs, x = .ref a ∧ H a = some (.ins C dx fs) ∧ RightOk X.K C Ts H y ∧ sp [x, y] H Q (E σ)) : wpAny (model X.prog X.w) X.A (compareOp .Eq v u) (EP X pins σ Q) X.xe s := by
  obtain ⟨a', dx, fs, ex, ea, ok, q⟩ := q
  subst ex
  cases (show v = Value.ref a' from rx)
  obtain ⟨od, J⟩ := inst_at I ea
  obtain ⟨m, fr⟩ := I.fr
  have go : wpAny (model X.prog X.w) X.A (call (.ref g) [.ref a', u]) (PySem.W.CmpBack (EP X pins σ Q)) X.xe s :=
    wpAny_mono (run_fnS (us := [.ref a', u]) (vs := [.ref a', y]) F hr hb (hx σ) I (.cons rfl (.cons ry .nil)) q) (fun r s' z => by
      obtain ⟨z', H', I', rz, qz⟩ := z
      exact SlX.cmpback rz ⟨z', H', I', rz, qz⟩) fun _ _ e => e
  show wpAny (model X.prog X.w) X.A (richCompare .Eq (.ref a') u) (EP X pins σ Q) X.xe s
  rcases ok with ⟨b', dy, gs, ey, eb⟩ | ⟨T, hT, ty⟩
  · subst ey
    cases (show u = Value.ref b' from ry)
    obtain ⟨od', J'⟩ := inst_at I eb
    exact PySem.W.cmp_K (op := .Eq) (tb := .ref C) hr.units0 fr I.ok.mod.kin J J'.type (by unfold PySem.W.notFirst; simp) c.at_.find c.at_.fn go
  · exact PySem.W.cmp_K (op := .Eq) (tb := .type T) hr.units0 fr I.ok.mod.kin J (looks_ty I ry ty) (by unfold PySem.W.notFirst; rw [c.sub T hT]; simp) c.at_.find c.at_.fn go
theorem pe_eqOwn (c : CmpC X.K C g "__eq__" Ts) (F : FnOk X.prog X.w X.K X.mg X.base CX k g fd ps sp) (hr : Room k X.A) (hb : Binds X.K fd ps []) (hx : ∀ σ, PassesAt CX X σ (E σ)) (ha : PE X a ta) (hbb : PE X b tb) (hm : behindInMarks .Eq b = false) : PE X (.Compare a [.Eq] [b] pos) (tOwn X.K C Ts sp E ta tb) :=
  ⟨fun pins s σ H Q I h => wpAny_Compare1 (binT ha hbb I h fun v u s2 x y H2 I2 rx ry q => eq_step c F hr hb hx I2 rx ry q) hm⟩
theorem pt_eqOwn (c : CmpC X.K C g "__eq__" Ts) (F : FnOk X.prog X.w X.K X.mg X.base CX k g fd ps sp) (hr : Room k X.A) (hb : Binds X.K fd ps []) (hx : ∀ σ, PassesAt CX X σ (E σ)) (ha : PE X a ta) (hbb : PE X b tb) (hm : behindInMarks .Eq b = false) : PT X (.Compare a [.Eq] [b] pos) (tTest (tOwn X.K C Ts sp E ta tb)) := by
  refine ⟨fun pins s σ H Q I h => ?_⟩
  refine wpAny_isTrue_Compare1 (thn (ha.run pins s σ H _ I h) fun v s1 ⟨x, H1, I1, r1, q1⟩ => thn (hbb.run pins s1 σ H1 _ I1 q1) fun u s2 ⟨y, H2, I2, r2, q2⟩ => thn (eq_step c F hr hb hx I2 r1 r2 q2) fun z s3 q3 => ?_) hm
  obtain ⟨z', H3, I3, r3, kk, e, q3⟩ := q3
  subst e
  cases (show z = Value.bool kk from r3)
  first
    | exact wpAny_truthy_bool ⟨H3, I3, q3⟩
    | exact ⟨_, wpAny_truthy_bool ⟨H3, I3, q3⟩⟩
end
end BR
set_option Elab.async false
set_option linter.all false
set_option maxRecDepth 100000
set_option maxHeartbeats 4000000
/-! BrW: own operators, own == and len, isinstance of an own class: the readings. -/
namespace BR
open PySem PySem.Spec PyProof.Rows L2
def tyAmong (Ts : List String) (q : PV) : Bool := match tyName q with
  | some t => Ts.any fun T => decide (T = t)
  | none => false
/-- what may stand at the right of an own operator -/
def rightOk (cl : Nat) (Ts : List String) (q : PV) (st : Store) : Bool := (insOf cl q st).isSome || tyAmong Ts q
/-- p op q, by the def of p's class -/
def fOwn (call : CallT) (id cl : Nat) (Ts : List String) (m n : EM) : FM := fun ρ st => (m ρ st).bind fun p st1 => (n ρ st1).bind fun q st2 => if (insOf cl p st2).isSome && rightOk cl Ts q st2 then call id [p, q] st2 else .bad
/-- len(p), by the def of p's class -/
def lenOf (v : SV) (st2 : Store) : R PV := match v with
  | .val (.int i) => if 0 ≤ i ∧ i < 2 ^ 62 then .ok (.int i) st2 else .bad
  | _ => .bad
def eLenI (call : CallT) (id cl : Nat) (m : EM) : EM := fun ρ st => (m ρ st).bind fun p st1 => if (insOf cl p st1).isSome then (call id [p] st1).noex.bind lenOf else .bad
def pIsiOwn (cl : Nat) (Ts : List String) (p : PV) (st : Store) : Option PV := if (insOf cl p st).isSome then some (.bl true) else if tyAmong Ts p then some (.bl false) else none
section
variable {c : Cn} {G : Gh} {H : Hp} {st : Store} {v : V} {q : PV} {cl : Nat} {C : Addr}
theorem ins_here (S : SRel c H st G) (r : RepV c G v q) (hcm : c.cm cl = some C) (h : (insOf cl q st).isSome = true) : ∃ a dx fs, v = .ref a ∧ H a = some (.ins C dx fs) := by
  obtain ⟨⟨ns, vs⟩, e⟩ := Option.isSome_iff_exists.mp h
  obtain ⟨a, C', dx, fs, ev, ha, hC, _⟩ := insOf_at S r e
  rw [hcm] at hC
  cases hC
  exact ⟨a, dx, fs, ev, ha⟩
theorem ty_here {Ts : List String} (S : SRel c H st G) (r : RepV c G v q) (h : tyAmong Ts q = true) : ∃ T ∈ Ts, L2.TyX c.K H v (.type T) := by
  unfold tyAmong at h
  cases e : tyName q with
  | none => rw [e] at h; cases h
  | some t =>
    rw [e] at h
    obtain ⟨T, hT, hd⟩ := List.any_eq_true.mp h
    have hd := of_decide_eq_true hd
    subst hd
    exact ⟨T, hT, tyx_of S r e⟩
theorem right_here {Ts : List String} (S : SRel c H st G) (r : RepV c G v q) (hcm : c.cm cl = some C) (h : rightOk cl Ts q st = true) : RightOk c.K C Ts H v := by
  rcases Bool.or_eq_true_iff.mp h with h | h
  · obtain ⟨a, dx, fs, e, ha⟩ := ins_here S r hcm h
    exact .inl ⟨a, dx, fs, e, ha⟩
  · exact .inr (ty_here S r h)
end
section
variable {cm : Nat → Option Addr} {X : Cx} {W : WX} {pos p : Pos} {m n : EM} {a b : Expr} {cl id k : Nat} {C g : Addr} {call : CallT} {fd : FuncData} {ps : List Str} {Ts : List String}
theorem w_own (hcm : cm cl = some C) {σ : L2.St} {H : Hp} {Q : VK} : tF (cnOf X cm) W (fOwn call id cl Ts m n) σ H Q → tOwn X.K C Ts (spF (cnOf X cm) (call id)) (WE W) (tE (cnOf X cm) W m) (tE (cnOf X cm) W n) σ H Q := fun ⟨B, ρ, st, G, R, h⟩ =>
  ⟨B, ρ, st, G, R, Out.bindR early_F R h fun p st1 H1 G1 x s1 R1 rx h1 => ⟨B, ρ, st1, G1, R1, Out.bindR early_F R1 h1 fun q st2 H2 G2 y s2 R2 ry h2 => by
    by_cases hb : ((insOf cl p st2).isSome && rightOk cl Ts q st2) = true
    · rw [if_pos hb] at h2
      obtain ⟨b1, b2⟩ := Bool.and_eq_true_iff.mp hb
      have rx2 := rx.up s2.toGExt
      obtain ⟨a, dx, fs, ev, ha⟩ := ins_here R2.toSRel rx2 hcm b1
      exact ⟨a, dx, fs, ev, ha, right_here R2.toSRel ry hcm b2, [p, q], st2, G2, R2.toSRel, .cons rx2 (.cons ry .nil), h2⟩
    · rw [if_neg hb] at h2
      exact h2.elim⟩⟩
theorem cf_bin {op : Operator} (c : BinC X.K C g op.info.2 Ts) (hcm : cm cl = some C) (F : FnOk X.prog X.w X.K X.mg X.base (L2.CX X.prog X.w) k g fd ps (spF (cnOf X cm) (call id))) (hr : Room k X.A) (hb : Binds X.K fd ps []) (tk : Takes X W) (ha : CE cm X W m a) (hbb : CE cm X W n b) :
    CF cm X W (fOwn call id cl Ts m n) (.BinOp a op b pos) := PE.weak (pe_binOwn c F hr hb (passAt tk) ha hbb) fun σ H Q h => w_own hcm h
theorem cf_eqOwn (c : CmpC X.K C g "__eq__" Ts) (hcm : cm cl = some C) (F : FnOk X.prog X.w X.K X.mg X.base (L2.CX X.prog X.w) k g fd ps (spF (cnOf X cm) (call id))) (hr : Room k X.A) (hb : Binds X.K fd ps []) (tk : Takes X W) (ha : CE cm X W m a) (hbb : CE cm X W n b)
    (hm : behindInMarks .Eq b = false := by first | exact nomark _ | rfl) : CF cm X W (fOwn call id cl Ts m n) (.Compare a [.Eq] [b] pos) := PE.weak (pe_eqOwn c F hr hb (passAt tk) ha hbb hm) fun σ H Q h => w_own hcm h
theorem ct_eqOwn (c : CmpC X.K C g "__eq__" Ts) (hcm : cm cl = some C) (F : FnOk X.prog X.w X.K X.mg X.base (L2.CX X.prog X.w) k g fd ps (spF (cnOf X cm) (call id))) (hr : Room k X.A) (hb : Binds X.K fd ps []) (tk : Takes X W) (ha : CE cm X W m a) (hbb : CE cm X W n b)
    (hm : behindInMarks .Eq b = false := by first | exact nomark _ | rfl) : CT cm X W (tVal (eFrz (fOwn call id cl Ts m n))) (.Compare a [.Eq] [b] pos) := PT.weak (pt_eqOwn c F hr hb (passAt tk) ha hbb hm) fun σ H Q h => w_own hcm (w_frz (tE_tVal h))
/-! ### len -/
def rLenI (C : Addr) (sp : Sp) : List V → Hp → VK → Prop := fun xs H Q => ∃ a dx fs, xs = [V.ref a] ∧ H a = some (.ins C dx fs) ∧ sp [.ref a] H (fun v H' => ∃ i : Int, v = .int i ∧ (0 ≤ i ∧ i < 2 ^ 62) ∧ Q (.int i) H') fun _ _ _ => False
theorem call_lenI {sp : Sp} (c : FnC X.K C g "__len__") (F : FnOk X.prog X.w X.K X.mg X.base (L2.CX X.prog X.w) k g fd ps sp) (hr : Room (k + 1) X.A) (hb : Binds X.K fd ps []) : CallR X (.builtin "len") (rLenI C sp) := by
  intro pins s σ H xs us Q I r h
  obtain ⟨a, dx, fs, rfl, ha, q⟩ := h
  obtain ⟨u, rfl, rx⟩ := vals1 r
  cases rx
  obtain ⟨od, J⟩ := inst_at I ha
  obtain ⟨m, fr⟩ := I.fr
  have r1 : Vals [V.ref a] [Value.ref a] := .cons rfl .nil
  have hl : [Value.ref a].length = ps.length := by rw [← r1.length]; exact F.len _ _ _ _ q
  have bd := hb s [Value.ref a] I.kIn (by rw [List.append_nil]; exact hl)
  rw [List.append_nil] at bd
  refine PySem.W.len_K fr I.ok.mod.kin J c.find c.fn (wpAny_call (codeAny_mono (F.run X.A.in1 X.stack s H ⟨[Value.ref a], []⟩ [Value.ref a] [V.ref a] _ (fun _ _ _ => False) hr.in1 I.env0.in1 bd r1 q) fun res s' hq => ?_))
  cases res with
  | error e =>
    obtain ⟨_, _, _, _, _, _, _, _, _, _, _, _, z⟩ := hq
    exact z.elim
  | ok fl =>
    cases fl with
    | ret u' =>
      obtain ⟨v, H', I2, rv, i, ei, hi, qi⟩ := I.after hq
      subst ei
      obtain ⟨t, rfl⟩ := (show ∃ t, u' = Value.int i t from rv)
      exact ⟨⟨hi.1, Int.lt_trans hi.2 (by decide)⟩, .int i, H', I2.tok _, ⟨_, rfl⟩, qi⟩
    | next => exact False.elim hq
    | brk => exact False.elim hq
    | cont => exact False.elim hq
theorem ce_lenI (c : FnC X.K C g "__len__") (hcm : cm cl = some C) (F : FnOk X.prog X.w X.K X.mg X.base (L2.CX X.prog X.w) k g fd ps (spF (cnOf X cm) (call id))) (hr : Room (k + 1) X.A) (hb : Binds X.K fd ps []) (hm : X.mg "len" = none) (ha : CE cm X W m a) (hg : Gl X "len" := by rfl)
    (hs : starEach [a] X.env = (false, eval a X.env) :: starEach [] X.env := by rfl) : CE cm X W (eLenI call id cl m) (.Call (.Name "len" p) [a] [] pos) :=
  PE.weak (pe_callB (call_lenI c F hr hb) hg hm PySem.boot_len (pa_cons ha pa_nil hs) (by decide) (by decide) hs) fun σ H Q ⟨B, ρ, st, G, R, h⟩ => ⟨B, ρ, st, G, R, Out.bindR early_E R h fun p st1 H1 G1 x s1 R1 rx h1 => by
    by_cases hi : (insOf cl p st1).isSome = true
    · rw [if_pos hi] at h1
      obtain ⟨a, dx, fs, ev, ha⟩ := ins_here R1.toSRel rx hcm hi
      refine ⟨a, dx, fs, by rw [ev], ha, [p], st1, G1, R1.toSRel, .cons (by rw [← ev]; exact rx) .nil, ?_⟩
      cases hc : call id [p] st1 with
      | bad => rw [hc] at h1; exact h1
      | ex _ _ _ _ => rw [hc] at h1; exact h1.elim
      | ok sv st2 =>
        rw [hc] at h1
        intro H2 G2 v s2 S2 rv
        have h1 : Out (cnOf X cm) (rpE (cnOf X cm)) G1 H1 Q (fun cls d H' => W cls d σ H') (lenOf sv st2) := h1
        cases sv with
        | val q =>
          cases q with
          | int i =>
            have h1 : Out (cnOf X cm) (rpE (cnOf X cm)) G1 H1 Q (fun cls d H' => W cls d σ H') (if 0 ≤ i ∧ i < 2 ^ 62 then BR.R.ok (.int i) st2 else .bad) := h1
            by_cases hb : 0 ≤ i ∧ i < 2 ^ 62
            · rw [if_pos hb] at h1
              cases (show RepV (cnOf X cm) G2 v (.int i) from rv)
              exact ⟨i, rfl, hb, h1 H2 G2 _ s2 S2 .int⟩
            · rw [if_neg hb] at h1
              exact h1.elim
          | _ => exact h1.elim
        | _ => exact h1.elim
    · rw [if_neg hi] at h1
      exact h1.elim⟩
/-! ### isinstance(x, C) -/
theorem ce_isiOwn {x : Str} {p2 : Pos} (c : IsiC X.K C Ts) (hc : Cls X.K C) (hcm : cm cl = some C) (hmC : X.mg x = some (.ref C)) (hm : X.mg "isinstance" = none) (ha : CE cm X W m a) (hg : Gl X "isinstance" := by rfl) (hgC : Gl X x := by rfl) (hd : (x == ("__debug__" : Str)) = false := by decide)
    (hs : starEach [a, .Name x p2] X.env = (false, eval a X.env) :: starEach [.Name x p2] X.env := by rfl) (hs1 : starEach [.Name x p2] X.env = (false, eval (.Name x p2) X.env) :: starEach [] X.env := by rfl) (hpl : (backTo pos (starEach [.Name x p2] X.env)).any (·.1) = false := by rfl) :
    CE cm X W (eOp1S (pIsiOwn cl Ts) m) (.Call (.Name "isinstance" p) [a, .Name x p2] [] pos) :=
  PE.weak (pe_callB call_isi hg hm PyProof.Rows.boot_isinstance (pa_cons ha (pa_cons (pe_glob (v := .ref C) hgC hmC rfl hd) pa_nil hs1) hs) (by decide) (by decide) hs hpl) fun σ H Q ⟨B, ρ, st, G, R, h⟩ => ⟨B, ρ, st, G, R, Out.bindR early_E R h fun q st1 H1 G1 v s1 R1 rx h1 => by
    obtain ⟨z, ez, h2⟩ := out_ofOpt h1
    unfold pIsiOwn at ez
    by_cases hi : (insOf cl q st1).isSome = true
    · rw [if_pos hi] at ez
      cases ez
      obtain ⟨a, dx, fs, ev, ha⟩ := ins_here R1.toSRel rx hcm hi
      subst ev
      refine ⟨.ref a, .ref C, .ref C, .ref C, true, rfl, .own C, .base (.ins ha hc c.ca c.cn c.ct c.cm), ?_, h2 H1 G1 _ (.refl G1 H1) R1.toSRel .bl⟩
      unfold PySem.W.kitOne
      rw [if_pos (by simp)]
    · rw [if_neg hi] at ez
      obtain ⟨ht, ez⟩ := ite_some ez
      cases ez
      obtain ⟨T, hT, ty⟩ := ty_here R1.toSRel rx ht
      refine ⟨v, .ref C, .type T, .ref C, false, rfl, .own C, ty, ?_, h2 H1 G1 _ (.refl G1 H1) R1.toSRel .bl⟩
      have ne : ¬ (Value.type T == Value.ref C) = true := fun q => by cases beq_iff_eq.mp q
      show (if (Value.type T == Value.ref C) = true then some true else (if ((PySem.W.clsIn X.K C).isSome && PySem.W.typeIn X.K (.ref C) == some (.type "type")) = true then PySem.W.subIn X.K (.type T) (.ref C) else none)) = some false
      rw [if_neg ne, if_pos (by rw [c.cl, c.ty]; simp)]
      exact c.sub T hT⟩
/-- a statement that is never reached -/
def sBad : SM := fun _ _ => .bad
theorem cs_bad {s : Stmt} : CS cm X W sBad s := ⟨fun pins s σ H D I ⟨B, ρ, st, G, R, h⟩ => h.elim⟩
end
end BR
set_option Elab.async false
set_option linter.all false
set_option maxRecDepth 100000
/-! BrX: the head's equation, part by part. -/
namespace BR
open PySem PySem.W HandSHeadRun
theorem map_two {α β γ : Type} {x : Option α} {f : α → β} {g : α → γ} {a : β} {b : γ} (h1 : x.map f = some a) (h2 : x.map g = some b) : x.map (fun s => (f s, g s)) = some (a, b) := by
  cases x with
  | none => cases h1
  | some s =>
    cases h1
    cases h2
    rfl
theorem run_parts {n M : Nat} {fa : List He.Fa} {fb : List Fb} {ts : List He.Tab} {gs : List DD} {r : OpenRow} {q : Program} {loose : List Str} {w : World} (h1 : Eq1 r q M loose w) (h2 : Eq2 n fa r M w) (h3 : Eq3 n fb gs r M w) (h4 : Eq4 n ts gs r M w) :
    RunEq r q (hookB n fa fb ts gs) (fun s => obsB n fa fb ts gs (getT s)) M loose w := fun os => by
  have e1 := h1 os
  have e2 := h2 os
  have e3 := h3 os
  have e4 := h4 os
  show (topRun r M w os).map _ = _
  cases e : topRun r M w os with
  | none => rw [e] at e1; cases e1
  | some s =>
    rw [e] at e1 e2 e3 e4
    simp only [Option.map_some, Option.some.injEq, Prod.mk.injEq] at e1 e2 e3 e4
    have eo : obsB n fa fb ts gs (getT s) = (((fa.all fun f => f.ok (kOf n s)) && exB fb gs (kOf n s)), ts.map (fun t => He.dicW (kOf n s) (t.1 (kOf n s))), gs.map fun d => fnWA (kOf n s) (d.adr (kOf n s))) := rfl
    show some (_, _, obsB n fa fb ts gs (getT s)) = some (true, openGood q loose, (true, ts.map (fun t => some (He.keysIn w.params t.2)), gs.map DD.val))
    rw [eo, e1.1, e1.2, e2, e3, e4.1, e4.2]
    rfl
end BR
set_option Elab.async false
set_option linter.all false
set_option maxRecDepth 100000
/-! BrY: the evaluator's rules for simp: one step of each combinator; continuations are named, so that simp does not look into what is not yet reached. -/
namespace BR
open PySem
section
variable {α β : Type} {ρ : BR.Env} {st : Store}
@[simp] theorem bind_ok (a : α) (f : α → Store → R β) : (R.ok a st).bind f = f a st := rfl
@[simp] theorem bind_ex (c ns vs) (f : α → Store → R β) : (R.ex c ns vs st).bind f = .ex c ns vs st := rfl
@[simp] theorem bindS_ok (a : α) (f : α → Store → SR) : (R.ok a st).bindS ρ f = f a st := rfl
@[simp] theorem bindS_ex (c ns vs) (f : α → Store → SR) : (R.ex c ns vs st).bindS ρ f = .ex c ns vs ρ st := rfl
@[simp] theorem noexY (a : α) : (R.ok a st).noex = .ok a st := rfl
@[simp] theorem ofOpt_some (a : α) : R.ofOpt (some a) st = .ok a st := rfl
def SR.seq (r : SR) (b : SM) : SR := match r with
  | .next ρ st => b ρ st
  | r => r
@[simp] theorem seq_next (b : SM) : SR.seq (.next ρ st) b = b ρ st := rfl
@[simp] theorem seq_ret (v) (b : SM) : SR.seq (.ret v st) b = .ret v st := rfl
@[simp] theorem seq_brk (b : SM) : SR.seq (.brk ρ st) b = .brk ρ st := rfl
@[simp] theorem seq_cnt (b : SM) : SR.seq (.cnt ρ st) b = .cnt ρ st := rfl
@[simp] theorem seq_ex (c ns vs) (b : SM) : SR.seq (.ex c ns vs ρ st) b = .ex c ns vs ρ st := rfl
@[simp] theorem sSeq_ev (a b : SM) : sSeq a b ρ st = (a ρ st).seq b := by unfold sSeq SR.seq; rfl
@[simp] theorem eC_ev (p) : eC p ρ st = .ok p st := rfl
def rdV (o : Option SV) (st : Store) : R PV := match o with
  | some (.val p) => .ok p st
  | _ => .bad
@[simp] theorem rdV_val (p) : rdV (some (.val p)) st = .ok p st := rfl
@[simp] theorem eVar_ev (i) : eVar i ρ st = rdV ρ[i]? st := rfl
def kOpt (f : PV → Option PV) (p : PV) (st : Store) : R PV := R.ofOpt (f p) st
@[simp] theorem kOpt_ev (f p) : kOpt f p st = R.ofOpt (f p) st := rfl
@[simp] theorem eOp1_ev (f m) : eOp1 f m ρ st = (m ρ st).bind (kOpt f) := rfl
def kOp2 (f : PV → PV → Option PV) (n : EM) (ρ : BR.Env) (p : PV) (st : Store) : R PV := (n ρ st).bind (kOpt (f p))
@[simp] theorem kOp2_ev (f n p) : kOp2 f n ρ p st = (n ρ st).bind (kOpt (f p)) := rfl
@[simp] theorem eOp2_ev (f m n) : eOp2 f m n ρ st = (m ρ st).bind (kOp2 f n ρ) := rfl
def kOp3 (f : PV → PV → PV → Option PV) (n l : EM) (ρ : BR.Env) (p : PV) (st : Store) : R PV := (n ρ st).bind (kOp2 (f p) l ρ)
@[simp] theorem kOp3_ev (f n l p) : kOp3 f n l ρ p st = (n ρ st).bind (kOp2 (f p) l ρ) := rfl
@[simp] theorem eOp3_ev (f m n l) : eOp3 f m n l ρ st = (m ρ st).bind (kOp3 f n l ρ) := rfl
@[simp] theorem aNil_ev : aNil ρ st = .ok [] st := rfl
def kCons2 (p : PV) (ps : List PV) (st : Store) : R (List PV) := .ok (p :: ps) st
@[simp] theorem kCons2_ev (p ps) : kCons2 p ps st = .ok (p :: ps) st := rfl
def kCons (r : AM) (ρ : BR.Env) (p : PV) (st : Store) : R (List PV) := (r ρ st).bind (kCons2 p)
@[simp] theorem kCons_ev (r p) : kCons r ρ p st = (r ρ st).bind (kCons2 p) := rfl
@[simp] theorem aCons_ev (m r) : aCons m r ρ st = (m ρ st).bind (kCons r ρ) := rfl
def kOptN (f : List PV → Option PV) (p : List PV) (st : Store) : R PV := R.ofOpt (f p) st
@[simp] theorem kOptN_ev (f p) : kOptN f p st = R.ofOpt (f p) st := rfl
@[simp] theorem eOpN_ev (f m) : eOpN f m ρ st = (m ρ st).bind (kOptN f) := rfl
def tupK (ps : List PV) (st : Store) : R PV := if ps.length ≤ lim then .ok (.tup ps) st else .bad
theorem tupK_ev {ps : List PV} (h : ps.length ≤ lim) : tupK ps st = .ok (.tup ps) st := if_pos h
def lstK (ps : List PV) (st : Store) : R SV := if ps.length ≤ lim then .ok (.own ps) st else .bad
theorem lstK_ev {ps : List PV} (h : ps.length ≤ lim) : lstK ps st = .ok (.own ps) st := if_pos h
@[simp] theorem tupK0 : tupK [] st = .ok (.tup []) st := rfl
@[simp] theorem lstK0 : lstK [] st = .ok (.own []) st := rfl
@[simp] theorem tupK1 (a) : tupK [a] st = .ok (.tup [a]) st := rfl
@[simp] theorem lstK1 (a) : lstK [a] st = .ok (.own [a]) st := rfl
@[simp] theorem tupK2 (a b) : tupK [a, b] st = .ok (.tup [a, b]) st := rfl
@[simp] theorem lstK2 (a b) : lstK [a, b] st = .ok (.own [a, b]) st := rfl
@[simp] theorem tupK3 (a b c) : tupK [a, b, c] st = .ok (.tup [a, b, c]) st := rfl
@[simp] theorem lstK3 (a b c) : lstK [a, b, c] st = .ok (.own [a, b, c]) st := rfl
@[simp] theorem tupK4 (a b c d) : tupK [a, b, c, d] st = .ok (.tup [a, b, c, d]) st := rfl
@[simp] theorem lstK4 (a b c d) : lstK [a, b, c, d] st = .ok (.own [a, b, c, d]) st := rfl
@[simp] theorem tupK5 (a b c d e) : tupK [a, b, c, d, e] st = .ok (.tup [a, b, c, d, e]) st := rfl
@[simp] theorem lstK5 (a b c d e) : lstK [a, b, c, d, e] st = .ok (.own [a, b, c, d, e]) st := rfl
@[simp] theorem tupK6 (a b c d e f) : tupK [a, b, c, d, e, f] st = .ok (.tup [a, b, c, d, e, f]) st := rfl
@[simp] theorem lstK6 (a b c d e f) : lstK [a, b, c, d, e, f] st = .ok (.own [a, b, c, d, e, f]) st := rfl
@[simp] theorem tupK7 (a b c d e f g) : tupK [a, b, c, d, e, f, g] st = .ok (.tup [a, b, c, d, e, f, g]) st := rfl
@[simp] theorem lstK7 (a b c d e f g) : lstK [a, b, c, d, e, f, g] st = .ok (.own [a, b, c, d, e, f, g]) st := rfl
@[simp] theorem tupK8 (a b c d e f g h) : tupK [a, b, c, d, e, f, g, h] st = .ok (.tup [a, b, c, d, e, f, g, h]) st := rfl
@[simp] theorem lstK8 (a b c d e f g h) : lstK [a, b, c, d, e, f, g, h] st = .ok (.own [a, b, c, d, e, f, g, h]) st := rfl
@[simp] theorem eTup_ev (m) : eTup m ρ st = (m ρ st).bind tupK := rfl
@[simp] theorem fLst_ev (m) : fLst m ρ st = (m ρ st).bind lstK := rfl
@[simp] theorem toPV_val (p) : (SV.val p).toPV = some p := rfl
@[simp] theorem toPV_own (p) : (SV.own p).toPV = some (.lst p) := rfl
def kFrz (v : SV) (st : Store) : R PV := R.ofOpt v.toPV st
@[simp] theorem kFrz_ev (v) : kFrz v st = R.ofOpt v.toPV st := rfl
@[simp] theorem eFrz_ev (m) : eFrz m ρ st = (m ρ st).bind kFrz := rfl
def kVal (v : PV) (st : Store) : R SV := .ok (.val v) st
@[simp] theorem kVal_ev (v) : kVal v st = .ok (.val v) st := rfl
@[simp] theorem fVal_ev (m) : fVal m ρ st = (m ρ st).bind kVal := rfl
@[simp] theorem fCall_ev (call id m) : fCall call id m ρ st = (m ρ st).bind (call id) := rfl
def k_fIf (a b : FM) (ρ : BR.Env) (k : Bool) (st : Store) : R SV := if k then a ρ st else b ρ st
@[simp] theorem k_fIf_t (a b) : k_fIf a b ρ true st = a ρ st := rfl
@[simp] theorem k_fIf_f (a b) : k_fIf a b ρ false st = b ρ st := rfl
@[simp] theorem fIf_ev (c a b) : fIf c a b ρ st = (c ρ st).bind (k_fIf a b ρ) := rfl
def k_eIf (a b : EM) (ρ : BR.Env) (k : Bool) (st : Store) : R PV := if k then a ρ st else b ρ st
@[simp] theorem k_eIf_t (a b) : k_eIf a b ρ true st = a ρ st := rfl
@[simp] theorem k_eIf_f (a b) : k_eIf a b ρ false st = b ρ st := rfl
@[simp] theorem eIf_ev (c a b) : eIf c a b ρ st = (c ρ st).bind (k_eIf a b ρ) := rfl
def tblK (p : PV) (st : Store) : R Bool := match p with
  | .bl b => .ok b st
  | _ => .bad
@[simp] theorem tblK_ev (b) : tblK (.bl b) st = .ok b st := rfl
@[simp] theorem tVal_ev (m) : tVal m ρ st = (m ρ st).bind tblK := rfl
def kNot (k : Bool) (st : Store) : R Bool := .ok (!k) st
@[simp] theorem kNot_ev (k) : kNot k st = .ok (!k) st := rfl
@[simp] theorem tNot_ev (m) : tNot m ρ st = (m ρ st).bind kNot := rfl
def kAnd (b : BM) (ρ : BR.Env) (k : Bool) (st : Store) : R Bool := if k then b ρ st else .ok false st
@[simp] theorem kAnd_t (b) : kAnd b ρ true st = b ρ st := rfl
@[simp] theorem kAnd_f (b) : kAnd b ρ false st = .ok false st := rfl
@[simp] theorem tAnd_ev (a b) : tAnd a b ρ st = (a ρ st).bind (kAnd b ρ) := rfl
def kOr (b : BM) (ρ : BR.Env) (k : Bool) (st : Store) : R Bool := if k then .ok true st else b ρ st
@[simp] theorem kOr_t (b) : kOr b ρ true st = .ok true st := rfl
@[simp] theorem kOr_f (b) : kOr b ρ false st = b ρ st := rfl
@[simp] theorem tOr_ev (a b) : tOr a b ρ st = (a ρ st).bind (kOr b ρ) := rfl
@[simp] theorem pAdd_int (a b : Int) : pAdd (.int a) (.int b) = some (.int (a + b)) := rfl
@[simp] theorem pSub_int (a b : Int) : pSub (.int a) (.int b) = some (.int (a - b)) := rfl
theorem pMul_int {a b : Int} (ha : small a = true) (hb : small b = true) : pMul (.int a) (.int b) = some (.int (a * b)) := by unfold pMul; simp only; rw [ha, hb]; rfl
theorem pDiv_int {a b : Int} (ha : 0 < b) (hb : small b = true) : pDiv (.int a) (.int b) = some (.int (a / b)) := by unfold pDiv; simp only; rw [decide_eq_true ha, hb]; rfl
theorem pMod_int {a b : Int} (ha : 0 < b) : pMod (.int a) (.int b) = some (.int (a % b)) := by unfold pMod; simp only; rw [decide_eq_true ha]; rfl
@[simp] theorem pNeg_int (a : Int) : pNeg (.int a) = some (.int (-a)) := rfl
@[simp] theorem pLt_int (a b : Int) : pLt (.int a) (.int b) = some (.bl (decide (a < b))) := rfl
@[simp] theorem pLe_int (a b : Int) : pLe (.int a) (.int b) = some (.bl (decide (a ≤ b))) := rfl
@[simp] theorem pGt_int (a b : Int) : pGt (.int a) (.int b) = some (.bl (decide (b < a))) := rfl
@[simp] theorem pGe_int (a b : Int) : pGe (.int a) (.int b) = some (.bl (decide (b ≤ a))) := rfl
@[simp] theorem pEq_int (a b : Int) : pEq (.int a) (.int b) = some (.bl (decide (a = b))) := rfl
@[simp] theorem pNe_int (a b : Int) : pNe (.int a) (.int b) = some (.bl (!decide (a = b))) := rfl
@[simp] theorem nInt_int (a : Int) : nInt [.int a] = some (.int a) := rfl
@[simp] theorem nLen_tup (xs) : nLen [.tup xs] = some (.int xs.length) := rfl
@[simp] theorem nLen_lst (xs) : nLen [.lst xs] = some (.int xs.length) := rfl
@[simp] theorem nLen_scr (xs) : nLen [.scr xs] = some (.int xs.length) := rfl
@[simp] theorem nTuple_tup (xs) : nTuple [.tup xs] = some (.tup xs) := rfl
@[simp] theorem pIdx_tup (xs i) : pIdx (.tup xs) (.int i) = L2.atI xs i := rfl
@[simp] theorem pIdx_lst (xs i) : pIdx (.lst xs) (.int i) = L2.atI xs i := rfl
@[simp] theorem pIdx_scr (xs i) : pIdx (.scr xs) (.int i) = (L2.atI xs i).map PV.int := rfl
theorem atI_at {xs : List α} {i : Int} (h0 : 0 ≤ i) (h1 : i < xs.length) : L2.atI xs i = xs[i.toNat]? := by
  unfold L2.atI L2.ixN
  rw [if_pos h0, if_pos h1]
  rfl
@[simp] theorem at10 (a : α) : L2.atI [a] 0 = some a := rfl
@[simp] theorem at20 (a b : α) : L2.atI [a, b] 0 = some a := rfl
@[simp] theorem at21 (a b : α) : L2.atI [a, b] 1 = some b := rfl
@[simp] theorem at30 (a b c : α) : L2.atI [a, b, c] 0 = some a := rfl
@[simp] theorem at31 (a b c : α) : L2.atI [a, b, c] 1 = some b := rfl
@[simp] theorem at32 (a b c : α) : L2.atI [a, b, c] 2 = some c := rfl
@[simp] theorem at40 (a b c d : α) : L2.atI [a, b, c, d] 0 = some a := rfl
@[simp] theorem at41 (a b c d : α) : L2.atI [a, b, c, d] 1 = some b := rfl
@[simp] theorem at42 (a b c d : α) : L2.atI [a, b, c, d] 2 = some c := rfl
@[simp] theorem at43 (a b c d : α) : L2.atI [a, b, c, d] 3 = some d := rfl
@[simp] theorem at50 (a b c d e : α) : L2.atI [a, b, c, d, e] 0 = some a := rfl
@[simp] theorem at51 (a b c d e : α) : L2.atI [a, b, c, d, e] 1 = some b := rfl
@[simp] theorem at52 (a b c d e : α) : L2.atI [a, b, c, d, e] 2 = some c := rfl
@[simp] theorem at53 (a b c d e : α) : L2.atI [a, b, c, d, e] 3 = some d := rfl
@[simp] theorem at54 (a b c d e : α) : L2.atI [a, b, c, d, e] 4 = some e := rfl
@[simp] theorem sNil_ev : sNil ρ st = .next ρ st := rfl
def kIfS (a b : SM) (ρ : BR.Env) (k : Bool) (st : Store) : SR := if k then a ρ st else b ρ st
@[simp] theorem kIfS_t (a b) : kIfS a b ρ true st = a ρ st := rfl
@[simp] theorem kIfS_f (a b) : kIfS a b ρ false st = b ρ st := rfl
@[simp] theorem sIf_ev (c a b) : sIf c a b ρ st = (c ρ st).bindS ρ (kIfS a b ρ) := rfl
def kSet (i : Nat) (ρ : BR.Env) (v : SV) (st : Store) : SR := .next (ρ.set i v) st
@[simp] theorem kSet_ev (i v) : kSet i ρ v st = .next (ρ.set i v) st := rfl
@[simp] theorem sSet_ev (i m) : sSet i m ρ st = (m ρ st).bindS ρ (kSet i ρ) := rfl
def kRet (v : SV) (st : Store) : SR := .ret v st
@[simp] theorem kRet_ev (v) : kRet v st = .ret v st := rfl
@[simp] theorem sRet_ev (m) : sRet m ρ st = (m ρ st).bindS ρ kRet := rfl
@[simp] theorem sRetN_ev : sRetN ρ st = .ret (.val .non) st := rfl
def retK (o : Option SV) (st : Store) : SR := match o with
  | some (.val p) => .ret (.val p) st
  | some (.own xs) => .ret (.own xs) st
  | _ => .bad
@[simp] theorem retK_val (p) : retK (some (.val p)) st = .ret (.val p) st := rfl
@[simp] theorem retK_own (p) : retK (some (.own p)) st = .ret (.own p) st := rfl
@[simp] theorem sRetV_ev (i) : sRetV i ρ st = retK ρ[i]? st := by unfold sRetV retK; rfl
def kDrop (ρ : BR.Env) (p : PV) (st : Store) : SR := .next ρ st
@[simp] theorem kDrop_ev (p) : kDrop ρ p st = .next ρ st := rfl
@[simp] theorem sDrop_ev (m) : sDrop m ρ st = (m ρ st).bindS ρ (kDrop ρ) := rfl
def asgK (o : Option (BR.Env × Store)) : SR := match o with
  | some (ρ2, st2) => .next ρ2 st2
  | none => .bad
@[simp] theorem asgK_some : asgK (some (ρ, st)) = .next ρ st := rfl
def kAsg (g : GM) (ρ : BR.Env) (p : PV) (st : Store) : SR := asgK (g p ρ st)
@[simp] theorem kAsg_ev (g p) : kAsg g ρ p st = asgK (g p ρ st) := rfl
@[simp] theorem sAsg_ev (m g) : sAsg m g ρ st = (m ρ st).bindS ρ (kAsg g ρ) := rfl
def kPar2 (i j : Nat) (v : SV) (ρ : BR.Env) (u : SV) (st : Store) : SR := .next ((ρ.set i v).set j u) st
@[simp] theorem kPar2_ev (i j v u) : kPar2 i j v ρ u st = .next ((ρ.set i v).set j u) st := rfl
def kPar (i j : Nat) (b : FM) (ρ : BR.Env) (v : SV) (st : Store) : SR := (b ρ st).bindS ρ (kPar2 i j v ρ)
@[simp] theorem kPar_ev (i j b v) : kPar i j b ρ v st = (b ρ st).bindS ρ (kPar2 i j v ρ) := rfl
@[simp] theorem sPar_ev (i j a b) : sPar i j a b ρ st = (a ρ st).bindS ρ (kPar i j b ρ) := rfl
@[simp] theorem gName_ev (i p) : gName i p ρ st = some (ρ.set i (.val p), st) := rfl
@[simp] theorem gTup_tup (gs ps) : gTup gs (.tup ps) ρ st = gEach gs ps ρ st := rfl
@[simp] theorem gTup_wt (gs ps) : gTup gs (.wt ps) ρ st = gEach gs ps ρ st := rfl
@[simp] theorem gTup_lst (gs ps) : gTup gs (.lst ps) ρ st = gEach gs ps ρ st := rfl
@[simp] theorem gEach_nil : gEach [] [] ρ st = some (ρ, st) := rfl
def kEach (gs : List GM) (ps : List PV) (z : BR.Env × Store) : Option (BR.Env × Store) := gEach gs ps z.1 z.2
@[simp] theorem kEach_ev (gs ps) : kEach gs ps (ρ, st) = gEach gs ps ρ st := rfl
@[simp] theorem gEach_cons (g gs p ps) : gEach (g :: gs) (p :: ps) ρ st = (g p ρ st).bind (kEach gs ps) := rfl
def kApp (i : Nat) (xs : List PV) (ρ : BR.Env) (p : PV) (st : Store) : SR := if xs.length < lim then .next (ρ.set i (.own (xs ++ [p]))) st else .bad
theorem kApp_ev {i : Nat} {xs : List PV} {p : PV} (h : xs.length < lim) : kApp i xs ρ p st = .next (ρ.set i (.own (xs ++ [p]))) st := if_pos h
@[simp] theorem kApp0 (i p) : kApp i [] ρ p st = .next (ρ.set i (.own [p])) st := rfl
def appK (i : Nat) (o : Option SV) (m : EM) (ρ : BR.Env) (st : Store) : SR := match o with
  | some (.own xs) => (m ρ st).bindS ρ (kApp i xs ρ)
  | _ => .bad
@[simp] theorem appK_own (i xs m) : appK i (some (.own xs)) m ρ st = (m ρ st).bindS ρ (kApp i xs ρ) := rfl
@[simp] theorem sApp_ev (i m) : sApp i m ρ st = appK i ρ[i]? m ρ st := by unfold sApp appK; rfl
def frzK (i : Nat) (o : Option SV) (ρ : BR.Env) (st : Store) : SR := match o with
  | some (.own xs) => .next (ρ.set i (.val (.lst xs))) st
  | _ => .bad
@[simp] theorem frzK_own (i xs) : frzK i (some (.own xs)) ρ st = .next (ρ.set i (.val (.lst xs))) st := rfl
@[simp] theorem sFrz_ev (i) : sFrz i ρ st = frzK i ρ[i]? ρ st := by unfold sFrz frzK; rfl
def lstO (o : Option SO) : Option (List PV) := match o with
  | some (.lst xs) => some xs
  | _ => none
@[simp] theorem lstO_lst (xs) : lstO (some (.lst xs)) = some xs := rfl
@[simp] theorem lstAt_ref (i) : lstAt (.ref i) st = lstO st[i]? := rfl
def kOptS (f : PV → Store → Option PV) (p : PV) (st : Store) : R PV := R.ofOpt (f p st) st
@[simp] theorem kOptS_ev (f p) : kOptS f p st = R.ofOpt (f p st) st := rfl
@[simp] theorem eOp1S_ev (f m) : eOp1S f m ρ st = (m ρ st).bind (kOptS f) := rfl
def kOp2S (f : PV → PV → Store → Option PV) (n : EM) (ρ : BR.Env) (p : PV) (st : Store) : R PV := (n ρ st).bind (kOptS (f p))
@[simp] theorem kOp2S_ev (f n p) : kOp2S f n ρ p st = (n ρ st).bind (kOptS (f p)) := rfl
@[simp] theorem eOp2S_ev (f m n) : eOp2S f m n ρ st = (m ρ st).bind (kOp2S f n ρ) := rfl
def kIdx (q : PV) (xs : List PV) : Option PV := pIdx (.lst xs) q
@[simp] theorem kIdx_ev (xs q) : kIdx q xs = pIdx (.lst xs) q := rfl
@[simp] theorem pIdxS_ref (i q) : pIdxS (.ref i) q st = (lstO st[i]?).bind (kIdx q) := rfl
@[simp] theorem pIdxS_tup (xs q) : pIdxS (.tup xs) q st = pIdx (.tup xs) q := rfl
@[simp] theorem pIdxS_lst (xs q) : pIdxS (.lst xs) q st = pIdx (.lst xs) q := rfl
@[simp] theorem pIdxS_scr (xs q) : pIdxS (.scr xs) q st = pIdx (.scr xs) q := rfl
@[simp] theorem pIdxS_str (xs q) : pIdxS (.str xs) q st = pIdx (.str xs) q := rfl
def kLen (xs : List PV) : PV := .int xs.length
@[simp] theorem kLen_ev (xs) : kLen xs = .int xs.length := rfl
@[simp] theorem nLenS_ref (i) : nLenS (.ref i) st = (lstO st[i]?).map kLen := rfl
@[simp] theorem nLenS_tup (xs) : nLenS (.tup xs) st = some (.int xs.length) := rfl
@[simp] theorem nLenS_lst (xs) : nLenS (.lst xs) st = some (.int xs.length) := rfl
@[simp] theorem nLenS_scr (xs) : nLenS (.scr xs) st = some (.int xs.length) := rfl
def nlK (v : SV) (st : Store) : R PV := match v with
  | .own xs => .ok (.ref st.length) (st ++ [.lst xs])
  | _ => .bad
@[simp] theorem nlK_own (xs) : nlK (.own xs) st = .ok (.ref st.length) (st ++ [.lst xs]) := rfl
@[simp] theorem eNewL_ev (m) : eNewL m ρ st = (m ρ st).bind nlK := rfl
def sixP (ρ : BR.Env) (i : Nat) (st : Store) (p : PV) (xs : List PV) (o : Option Nat) : SR := match o with
  | some n => .next ρ (st.set i (.lst (xs.set n p)))
  | none => .bad
@[simp] theorem sixP_some (i n p xs) : sixP ρ i st p xs (some n) = .next ρ (st.set i (.lst (xs.set n p))) := rfl
def sixO (ρ : BR.Env) (i : Nat) (st : Store) (p : PV) (z : Int) (o : Option (List PV)) : SR := match o with
  | some xs => sixP ρ i st p xs (L2.ixN xs.length z)
  | none => .bad
@[simp] theorem sixO_some (i p z xs) : sixO ρ i st p z (some xs) = sixP ρ i st p xs (L2.ixN xs.length z) := rfl
def six (p r : PV) (ρ : BR.Env) (q : PV) (st : Store) : SR := match lstAt r st, q with
  | some xs, .int z => (match L2.ixN xs.length z with
    | some n => (match putL st r (xs.set n p) with
      | some st4 => .next ρ st4
      | none => .bad)
    | none => .bad)
  | _, _ => .bad
@[simp] theorem six_ref (p i z) : six p (.ref i) ρ (.int z) st = sixO ρ i st p z (lstO st[i]?) := by
  unfold six
  rw [lstAt_ref]
  cases lstO st[i]? with
  | none => rfl
  | some xs =>
    simp only [sixO_some]
    cases L2.ixN xs.length z <;> rfl
def kSix2 (p : PV) (k : EM) (ρ : BR.Env) (r : PV) (st : Store) : SR := (k ρ st).bindS ρ (six p r ρ)
@[simp] theorem kSix2_ev (p k r) : kSix2 p k ρ r st = (k ρ st).bindS ρ (six p r ρ) := rfl
def kSix1 (o k : EM) (ρ : BR.Env) (p : PV) (st : Store) : SR := (o ρ st).bindS ρ (kSix2 p k ρ)
@[simp] theorem kSix1_ev (p k o) : kSix1 o k ρ p st = (o ρ st).bindS ρ (kSix2 p k ρ) := rfl
@[simp] theorem sSetIxL_ev (o m k) : sSetIxL o m k ρ st = (m ρ st).bindS ρ (kSix1 o k ρ) := rfl
@[simp] theorem ix40 : L2.ixN 4 0 = some 0 := rfl
@[simp] theorem ix41 : L2.ixN 4 1 = some 1 := rfl
@[simp] theorem ix42 : L2.ixN 4 2 = some 2 := rfl
@[simp] theorem ix43 : L2.ixN 4 3 = some 3 := rfl
def insO (cl : Nat) (o : Option SO) : Option (List Str × List PV) := match o with
  | some (.ins c ns vs) => if c = cl then some (ns, vs) else none
  | _ => none
@[simp] theorem insO_ins (cl ns vs) : insO cl (some (.ins cl ns vs)) = some (ns, vs) := if_pos rfl
@[simp] theorem insOf_ref (cl i) : insOf cl (.ref i) st = insO cl st[i]? := by unfold insOf insO; rfl
@[simp] theorem insOf_ins (cl ns vs) : insOf cl (.ins cl ns vs) st = some (ns, vs) := if_pos rfl
def attrO (f : Str) (o : Option (List Str × List PV)) (st : Store) : R PV := match o with
  | some (ns, vs) => R.ofOpt (look2 ns vs f) st
  | none => .bad
@[simp] theorem attrO_some (f ns vs) : attrO f (some (ns, vs)) st = R.ofOpt (look2 ns vs f) st := rfl
def kAttr (cl : Nat) (f : Str) (p : PV) (st : Store) : R PV := attrO f (insOf cl p st) st
@[simp] theorem kAttr_ev (cl f p) : kAttr cl f p st = attrO f (insOf cl p st) st := rfl
@[simp] theorem eAttr_ev (cl f m) : eAttr cl f m ρ st = (m ρ st).bind (kAttr cl f) := rfl
def kMethA (call : CallT) (id : Nat) (p : PV) (ps : List PV) (st : Store) : R SV := call id (p :: ps) st
@[simp] theorem kMethA_ev (call id p ps) : kMethA call id p ps st = call id (p :: ps) st := rfl
def methP (call : CallT) (id : Nat) (p : PV) (ar : AM) (ρ : BR.Env) (st : Store) (o : Option PV) : R SV := match o with
    | none => (ar ρ st).bind (kMethA call id p)
    | some _ => .bad
@[simp] theorem methP_none (call id p ar) : methP call id p ar ρ st none = (ar ρ st).bind (kMethA call id p) := rfl
def methO (call : CallT) (id : Nat) (f : Str) (p : PV) (ar : AM) (ρ : BR.Env) (st : Store) (o : Option (List Str × List PV)) : R SV := match o with
  | some (ns, vs) => methP call id p ar ρ st (look2 ns vs f)
  | none => .bad
@[simp] theorem methO_some (call id f p ar ns vs) : methO call id f p ar ρ st (some (ns, vs)) = methP call id p ar ρ st (look2 ns vs f) := rfl
def kMeth (call : CallT) (id cl : Nat) (f : Str) (ar : AM) (ρ : BR.Env) (p : PV) (st : Store) : R SV := methO call id f p ar ρ st (insOf cl p st)
@[simp] theorem kMeth_ev (call id cl f ar p) : kMeth call id cl f ar ρ p st = methO call id f p ar ρ st (insOf cl p st) := rfl
@[simp] theorem fMeth_ev (call id cl f o ar) : fMeth call id cl f o ar ρ st = (o ρ st).bind (kMeth call id cl f ar ρ) := by
  unfold fMeth kMeth methO methP kMethA
  rfl
@[simp] theorem look2_nil (vs f) : look2 [] vs f = none := by unfold look2; rfl
@[simp] theorem look2_cons (n ns v vs f) : look2 (n :: ns) (v :: vs) f = if n = f then some v else look2 ns vs f := by conv => lhs; unfold look2
def makeK (rf : Bool) (v : SV) (st : Store) : R SV := match v with
  | .ins c ns vs => if rf then .ok (.val (.ref st.length)) (st ++ [.ins c ns vs]) else .ok (.val (.ins c ns vs)) st
  | _ => .bad
@[simp] theorem makeK_ref (c ns vs) : makeK true (.ins c ns vs) st = .ok (.val (.ref st.length)) (st ++ [.ins c ns vs]) := rfl
@[simp] theorem makeK_ins (c ns vs) : makeK false (.ins c ns vs) st = .ok (.val (.ins c ns vs)) st := rfl
def kMake (call : CallT) (id : Nat) (rf : Bool) (ps : List PV) (st : Store) : R SV := (call id ps st).bind (makeK rf)
@[simp] theorem kMake_ev (call id rf ps) : kMake call id rf ps st = (call id ps st).bind (makeK rf) := rfl
@[simp] theorem fMake_ev (call id rf ar) : fMake call id rf ar ρ st = (ar ρ st).bind (kMake call id rf) := rfl
def aplO (i : Nat) (p : PV) (ρ : BR.Env) (st : Store) (o : Option (List PV)) : SR := match o with
  | some xs => if xs.length < lim then .next ρ (st.set i (.lst (xs ++ [p]))) else .bad
  | none => .bad
theorem aplO_some {i : Nat} {p : PV} {xs : List PV} (h : xs.length < lim) : aplO i p ρ st (some xs) = .next ρ (st.set i (.lst (xs ++ [p]))) := if_pos h
@[simp] theorem aplO1 (i p a) : aplO i p ρ st (some [a]) = .next ρ (st.set i (.lst [a, p])) := rfl
def kApl2 (i : Nat) (ρ : BR.Env) (p : PV) (st : Store) : SR := aplO i p ρ st (lstO st[i]?)
@[simp] theorem kApl2_ev (i p) : kApl2 i ρ p st = aplO i p ρ st (lstO st[i]?) := rfl
def aplQ (m : EM) (i : Nat) (ρ : BR.Env) (st : Store) (o : Option (List PV)) : SR := match o with
  | some xs => (m ρ st).bindS ρ (kApl2 i ρ)
  | none => .bad
@[simp] theorem aplQ_some (m i xs) : aplQ m i ρ st (some xs) = (m ρ st).bindS ρ (kApl2 i ρ) := rfl
def kApl (m : EM) (ρ : BR.Env) (r : PV) (st : Store) : SR := if (lstAt r st).isSome then (m ρ st).bindS ρ fun p st2 => (match lstAt r st2 with
  | some xs => if xs.length < lim then (match putL st2 r (xs ++ [p]) with
    | some st3 => .next ρ st3
    | none => .bad) else .bad
  | none => .bad) else .bad
@[simp] theorem kApl_ref (m i) : kApl m ρ (.ref i) st = aplQ m i ρ st (lstO st[i]?) := by
  unfold kApl
  rw [lstAt_ref]
  cases lstO st[i]? with
  | none => rfl
  | some xs =>
    rw [aplQ_some]
    refine (if_pos rfl).trans ?_
    congr 1
@[simp] theorem sAppL_ev (o m) : sAppL o m ρ st = (o ρ st).bindS ρ (kApl m ρ) := rfl
/-! loops -/
def kFor (g : GM) (b : SM) (ρ : BR.Env) (xs : List PV) (st : Store) : SR := forGo g b xs ρ st
@[simp] theorem kFor_ev (g b xs) : kFor g b ρ xs st = forGo g b xs ρ st := rfl
@[simp] theorem sFor_ev (m g b) : sFor m g b ρ st = (m ρ st).bindS ρ (kFor g b ρ) := rfl
def kLs (f : PV → Option (List PV)) (p : PV) (st : Store) : R (List PV) := R.ofOpt (f p) st
@[simp] theorem kLs_ev (f p) : kLs f p st = R.ofOpt (f p) st := rfl
def kLs2 (f : PV → PV → Option (List PV)) (n : EM) (ρ : BR.Env) (p : PV) (st : Store) : R (List PV) := (n ρ st).bind (kLs (f p))
@[simp] theorem kLs2_ev (f n p) : kLs2 f n ρ p st = (n ρ st).bind (kLs (f p)) := rfl
@[simp] theorem wRng1_ev (m) : wRng1 m ρ st = (m ρ st).bind (kLs rng1) := rfl
@[simp] theorem wRng2_ev (m n) : wRng2 m n ρ st = (m ρ st).bind (kLs2 rng2 n ρ) := rfl
@[simp] theorem wZip_ev (m n) : wZip m n ρ st = (m ρ st).bind (kLs2 zipOf n ρ) := rfl
@[simp] theorem wItems_ev (m) : wItems m ρ st = (m ρ st).bind (kLs itemsOf) := rfl
@[simp] theorem itemsOf_tup (xs) : itemsOf (.tup xs) = some xs := rfl
@[simp] theorem itemsOf_lst (xs) : itemsOf (.lst xs) = some xs := rfl
@[simp] theorem forGo_nil (g b) : forGo g b [] ρ st = .next ρ st := rfl
def SR.loop (r : SR) (k : SM) : SR := match r with
  | .next ρ st => k ρ st
  | .cnt ρ st => k ρ st
  | .brk ρ st => .next ρ st
  | r => r
@[simp] theorem loop_next (k : SM) : SR.loop (.next ρ st) k = k ρ st := rfl
@[simp] theorem loop_cnt (k : SM) : SR.loop (.cnt ρ st) k = k ρ st := rfl
@[simp] theorem loop_brk (k : SM) : SR.loop (.brk ρ st) k = .next ρ st := rfl
@[simp] theorem loop_ret (v) (k : SM) : SR.loop (.ret v st) k = .ret v st := rfl
@[simp] theorem loop_ex (c ns vs) (k : SM) : SR.loop (.ex c ns vs ρ st) k = .ex c ns vs ρ st := rfl
theorem forGo_cons {g : GM} {b : SM} {x : PV} {xs : List PV} {ρ1 : BR.Env} {st1 : Store} (h : g x ρ st = some (ρ1, st1)) : forGo g b (x :: xs) ρ st = (b ρ1 st1).loop (forGo g b xs) := by
  conv => lhs; unfold forGo
  rw [h]
  simp only
  cases b ρ1 st1 <;> rfl
/-! try -/
def SR.tryK (r : SR) (hs : List ((Nat → Option Bool) × SM)) : SR := match r with
  | .ex cl ns vs ρ1 st1 => handleGo hs cl ns vs ρ1 st1
  | r => r
@[simp] theorem sTry_ev (b hs) : sTry b hs ρ st = (b ρ st).tryK hs := by unfold sTry SR.tryK; rfl
@[simp] theorem tryK_next (hs) : SR.tryK (.next ρ st) hs = .next ρ st := rfl
@[simp] theorem tryK_ret (v hs) : SR.tryK (.ret v st) hs = .ret v st := rfl
@[simp] theorem tryK_ex (c ns vs hs) : SR.tryK (.ex c ns vs ρ st) hs = handleGo hs c ns vs ρ st := rfl
@[simp] theorem sRaise0_ev (cl) : sRaise0 cl ρ st = .ex cl [] [] ρ st := rfl
/-! functions -/
@[simp] theorem finish_next : BR.finish (.next ρ st) = .ok (.val .non) st := rfl
@[simp] theorem finish_ret (v) : BR.finish (.ret v st) = .ok v st := rfl
@[simp] theorem finish_ex (c ns vs) : BR.finish (.ex c ns vs ρ st) = .ex c ns vs st := rfl
theorem run_fn {T : Nat → Option Fn} {k id : Nat} {args : List PV} {ps n : Nat} {body : CallT → SM} (h : T id = some ⟨ps, n, none, body⟩) (ha : args.length = ps) :
    runFn T (k + 1) id args st = BR.finish (body (runFn T k) (args.map .val ++ List.replicate (n - ps) .un) st) := by
  conv => lhs; unfold runFn
  rw [h]
  simp only
  rw [if_pos ha]
  rfl
theorem run_ini {T : Nat → Option Fn} {k id : Nat} {args : List PV} {ps n c : Nat} {body : CallT → SM} (h : T id = some ⟨ps, n, some c, body⟩) (ha : args.length = ps) :
    runFn T (k + 1) id args st = finishI (body (runFn T k) (.ins c [] [] :: (args.map .val ++ List.replicate (n - (ps + 1)) .un)) st) := by
  conv => lhs; unfold runFn
  rw [h]
  simp only
  rw [if_pos ha]
  rfl
theorem small_of {a : Int} (h0 : 0 ≤ a) (h1 : a < 2 ^ 62) : small a = true := by
  refine decide_eq_true ?_
  have : a.natAbs < 2 ^ 62 := by omega
  exact Nat.lt_of_lt_of_le (PySem.Flt.log2_lt_of (by decide) this) (by decide)
end
end BR
set_option Elab.async false
set_option linter.all false
set_option maxRecDepth 100000
/-! BrZ: a name set to a dict comprehension on one line. -/
namespace BR
open PySem PySem.Spec PyProof.Rows L2
section
variable {X : Cx} {pins : List (Addr × Obj)} {σ : L2.St} {H : Hp} {s : Shared}
theorem ps_setDcN {i : Nat} {y : Str} {py : Pos} {kx vx tg iter : Expr} {ifs : List Expr} {scope : Scope} {own : List (Str × Nat)} {pos spos : Pos} {wi : TI} {g : TG} {tt : TT} {tk tv : TE} (hc : X.calm = true) (hu : X.A.units + 64 < cLine) (hN : X.N.Nodup) (hy : X.N[i]? = some y) (hyl : X.env.scope.names.lookup y = some .local)
    (hsw : swapsWith (.DictComp kx vx [⟨tg, iter, ifs, 0⟩] scope pos) (some (.Name y py)) spos.line X.env = pure true) (hi : PI X tg iter wi) (ok : BlkOk X.N X.env.scope scope own)
    (hg : ∀ (s : Shared) (H : Hp) (C : Addr) (cl : List (Str × Addr)) (fp : List Addr), PG (X.blk s H scope (compEnvC scope cl C X.env) fp) tg g)
    (ht : ∀ (s : Shared) (H : Hp) (C : Addr) (cl : List (Str × Addr)) (fp : List Addr), PTs (X.blk s H scope (compEnvC scope cl C X.env) fp) ifs tt)
    (hk : ∀ (s : Shared) (H : Hp) (C : Addr) (cl : List (Str × Addr)) (fp : List Addr), PE (X.blk s H scope (compEnvC scope cl C X.env) fp) kx tk)
    (he : ∀ (s : Shared) (H : Hp) (C : Addr) (cl : List (Str × Addr)) (fp : List Addr), PE (X.blk s H scope (compEnvC scope cl C X.env) fp) vx tv) (hs : ∀ x, foldedSetIterable iter X.env x = pure x := by intro _; rfl) :
    PS X (.Assign [.Name y py] (.DictComp kx vx [⟨tg, iter, ifs, 0⟩] scope pos) spos) (tAsg (tDcN X wi g tt tk tv (own.map (·.2))) (L2.gName i)) := by
  refine ⟨fun pins s σ H D I h => ?_⟩
  rw [exec_Assign_Name_used _ _ _ _ hsw]
  refine wpAny_bind (wpAny_standAt (wpAny_bind ?_))
  show wpAny _ X.A (do let _ ← comprehension (.DictComp kx vx [⟨tg, iter, ifs, 0⟩] scope pos) scope X.env _ newDict false (eval iter X.env) (some (assign (.Name y py) X.env))) _ _ s
  have h : tDcN X wi g tt tk tv (own.map (·.2)) σ H (fun x H1 => L2.gName i x σ H1 D.nx) := h
  refine wpAny_bind (thn (dc_coreN (Qf := fun _ s' => SP X pins D .next s') hc hu hN I hi ok hg ht hk he hs h fun Da C s' m H' I' q hn f => ?_) fun _ s' hq => wpAny_pure (wpAny_pure hq))
  show wpAny _ _ (assign (.Name y py) X.env (.ref Da)) _ _ _
  refine wpAny_assign_Name (store_ok2 (v := V.ref Da) I' hN hy (.inl hyl) rfl (fun s2 I2 ⟨a, sb, ha⟩ => ?_) (.inr hyl))
  obtain ⟨f0, f1, f2, f3, f4, f5⟩ := f
  have haC : C ≠ a := ha.elim (fun z => by rw [z]; exact f1) fun z e => f4 y a z e.symm
  exact ⟨m, hn.sameBut sb haC, fun h3 sb3 => ⟨_, H', I2.turned (t' := s2.toks) (fun b o hb e => (sb3.2 b hb).trans e) f0 f1 f3 f4 f5, q⟩⟩
end
section
variable {cm : Nat → Option Addr} {X : Cx} {W : WX} {pos : Pos}
theorem cs_setDc (i : Nat) {y : Str} {py spos : Pos} {kx vx tg iter : Expr} {ifs : List Expr} {scope : Scope} {own : List (Str × Nat)} {w : AM} {g : GM} {ol : List Nat} {t : BM} {ek ev : EM} {k : Nat} (hr : Room k X.A) (hc : X.calm = true) (hN : X.N.Nodup) (hi : CI cm X W w tg iter) (ok : BlkOk X.N X.env.scope scope own) (ho : ∀ j ∈ ol, j ∈ own.map (·.2))
    (hg : ∀ (s : Shared) (H : Hp) (C : Addr) (cl : List (Str × Addr)) (fp : List Addr), CGp cm (X.blk s H scope (compEnvC scope cl C X.env) fp) ol g tg)
    (ht : ∀ (s : Shared) (H : Hp) (C : Addr) (cl : List (Str × Addr)) (fp : List Addr), CTs cm (X.blk s H scope (compEnvC scope cl C X.env) fp) t ifs)
    (hk : ∀ (s : Shared) (H : Hp) (C : Addr) (cl : List (Str × Addr)) (fp : List Addr), CE cm (X.blk s H scope (compEnvC scope cl C X.env) fp) W0 ek kx)
    (he : ∀ (s : Shared) (H : Hp) (C : Addr) (cl : List (Str × Addr)) (fp : List Addr), CE cm (X.blk s H scope (compEnvC scope cl C X.env) fp) W0 ev vx) (hs : ∀ x, foldedSetIterable iter X.env x = pure x := by intro _; rfl)
    (hy : X.N[i]? = some y := by rfl) (hyl : X.env.scope.names.lookup y = some .local := by rfl) (hsw : swapsWith (.DictComp kx vx [⟨tg, iter, ifs, 0⟩] scope pos) (some (.Name y py)) spos.line X.env = pure true := by rfl) :
    CS cm X W (sSet i (fVal (eDc w (own.map (·.2)) g t ek ev))) (.Assign [.Name y py] (.DictComp kx vx [⟨tg, iter, ifs, 0⟩] scope pos) spos) :=
  PS.weak (ps_setDcN (g := tGp (cnOf X cm) ol g) (tt := tT (cnOf X cm) W0 t) (tk := tE (cnOf X cm) W0 ek) (tv := tE (cnOf X cm) W0 ev) hc hr.units hN hy hyl hsw hi ok (fun s H C cl fp => (hg s H C cl fp).run) ht hk he hs) fun D σ H h => w_dc ho (hg X.s_0 H X.env.locals [] []).pure (w_val (w_set h))
end
end BR
set_option Elab.async false
set_option linter.all false
set_option maxRecDepth 100000
set_option maxHeartbeats 4000000
/-! BrNe: p != q, by the __eq__ of p's class: what object.__ne__ asks. -/
namespace BR
open PySem PySem.Spec PyProof.Rows L2
open He (ba eqO eqO_ok ga ma)
structure OneC (K : PySem.W.Frag) (C : Addr) : Prop where
  ne : PySem.W.findIn K (.ref C) "__ne__" = some (some (.builtin "object.__ne__"))
  ob : PySem.W.mroIn K C (.type "object") = some true
theorem one_ok {K : PySem.W.Frag} {x : Str} (c : (Fb.one x).ok K = true) : OneC K (ga K x) := by
  obtain ⟨c1, c2⟩ := ba c
  exact ⟨eqO_ok c1, of_decide_eq_true c2⟩
section
variable {M : Model} {prog : Program} {w : World} {A : Around} {XE : Value → Shared → Prop} {s : Shared} {K : PySem.W.Frag} {z C f L : Addr} {oz : Obj} {od : Option Obj} {y ty : Value}
theorem neBound {us : List Value} {Q : Option Value → Shared → Prop} (kin : K.In s.heap) (J : PySem.W.InstAt s.heap z oz C od) (c : OneC K C)
    (go : wpAny M A (call (.builtin "object.__ne__") (.ref z :: us)) (fun v => Q (some v)) XE s) : wpAny M A (callSpecialIfBound? (.ref z) "__ne__" us) Q XE s := by
  have last : wpAny M A (call (.builtin "object.__ne__") ([.ref z] ++ us) >>= fun v => pure (some v)) Q XE s := wpAny_bind (wpAny_mono go (fun _ _ q => wpAny_pure q) fun _ _ q => q)
  simp only [callSpecialIfBound?, bindSpecialIfBound?]
  refine wpAny_holding (wpAny_bind (wpAny_bind (wpAny_bind (J.type.here ((PySem.W.looks_findIn kin c.ne).here (wpAny_bind (wpAny_askSetting (wpAny_ite ?_))))))))
  split <;> first | exact wpAny_bind (wpAny_of_eq (PySem.F.cmp_object.ne.bind _) (wpAny_pure (by exact last))) | exact wpAny_tryCatch (wpAny_bind (wpAny_of_eq (PySem.F.cmp_object.ne.bind _) (wpAny_pure (by exact last))))
theorem neEntry {Q : Fin → Shared → Prop} (hu : A.units < cLine) (kin : K.In s.heap) (J : PySem.W.InstAt s.heap z oz C od) (c : FnC K C f "__eq__")
    (go : wpAny M A (call (.ref f) [.ref z, y]) (fun v s' => ∃ b, v = .bool b ∧ Q (.done (.ret (.bool (!b)))) s') XE s) : wpAny M A (Builtin.«object.__ne__» ⟨[.ref z, y], []⟩) Q XE s := by
  unfold Builtin.«object.__ne__»
  repeat (first
    | with_reducible refine wpAny_cRoomFor hu ?_
    | (refine wpAny_bind (m := callSpecialIfBound? (.ref z) (Str.ofString "__eq__") [y]) (PySem.W.ifBound_K kin J c.find c.fn (wpAny_mono go (fun v s' q => by
          obtain ⟨b, e, q⟩ := q
          subst e
          repeat (first | exact q | exact wpAny_pure q | exact wpAny_truthy_bool q | (refine wpAny_bind (m := truthy (.bool _)) (wpAny_truthy_bool ?_)) | wp_step)) fun _ _ q => q)))
    | wp_step)
theorem neTry {Q : Option Value → Shared → Prop} (hu : A.units + 1 < cLine) (kin : K.In s.heap) (J : PySem.W.InstAt s.heap z oz C od) (c : FnC K C f "__eq__") (o : OneC K C)
    (go : wpAny (model prog w) A.in1 (call (.ref f) [.ref z, y]) (fun v s' => ∃ b, v = .bool b ∧ Q (some (.bool (!b))) s') XE s) : wpAny (model prog w) A (tryCompare (.ref z) "__ne__" y) Q XE s := by
  simp only [tryCompare]
  refine wpAny_bind (neBound kin J o (wpAny_call (codeAny_call_builtin PySem.F.cmp_object.ne.plain PySem.F.cmpEntry_ne
    (PySem.W.check_slot PySem.F.cmpKind_ne PySem.F.cmpSplit_ne (J.type.andThen (PySem.W.looks_mroIn kin o.ob)) (PySem.F.cmpArgs_ne _ _) (neEntry (A := A.in1) hu kin J c (wpAny_mono go (fun v s' q => ?_) fun _ _ q => q))))))
  obtain ⟨b, e, q⟩ := q
  exact ⟨b, e, wpAny_pure q⟩
theorem neRich {Q : Value → Shared → Prop} (hu : A.units + 1 < cLine) (kin : K.In s.heap) (J : PySem.W.InstAt s.heap z oz C od) (ht : PySem.W.Looks (model prog w) s.heap (typeOf y) ty) (hn : ty = .ref C ∨ PySem.W.subIn K ty (.ref C) = some false) (c : FnC K C f "__eq__") (o : OneC K C)
    (go : wpAny (model prog w) A.in1 (call (.ref f) [.ref z, y]) (fun v s' => ∃ b, v = .bool b ∧ Q (.bool (!b)) s') XE s) : wpAny (model prog w) A (compareOp .NotEq (.ref z) y) Q XE s := by
  have tr : wpAny (model prog w) A (tryCompare (.ref z) "__ne__" y) (fun r s' => ∃ b, r = some (.bool b) ∧ Q (.bool b) s') XE s :=
    neTry hu kin J c o (wpAny_mono go (fun v s' q => by
      obtain ⟨b, e, q⟩ := q
      exact ⟨b, e, _, rfl, q⟩) fun _ _ q => q)
  unfold compareOp richCompare
  simp only [oneThing_ref, cmpInfo_NotEq]
  refine wpAny_holding (wpAny_bind (wpAny_cRoomFor (Nat.lt_of_succ_lt hu) (wpAny_bind (J.type.here (wpAny_bind (ht.here ?_))))))
  have fin : ∀ {g : Option Value → Sem Value} {R : Value → Shared → Prop}, (∀ b s', Q (.bool b) s' → wpAny (model prog w) A (g (some (.bool b))) R XE s') → wpAny (model prog w) A (tryCompare (.ref z) "__ne__" y >>= g) R XE s := fun {g R} k =>
    wpAny_bind (wpAny_mono tr (fun r s' q => by
      obtain ⟨b, e, q⟩ := q
      subst e
      exact k b s' q) fun _ _ q => q)
  split
  · rename_i d
    rcases hn with hn | hn
    · rw [hn] at d
      simp at d
    · refine wpAny_bind ((PySem.W.looks_subIn kin hn).here ?_)
      simp only [Bool.false_eq_true, if_false]
      exact fin fun b s' q => wpAny_pure q
  · refine wpAny_bind (wpAny_pure ?_)
    simp only [Bool.false_eq_true, if_false]
    exact fin fun b s' q => wpAny_pure q
end
/-- p != q of a class that has an own __eq__ -/
def kNe (v : SV) (st : Store) : R SV := match v with
  | .val (.bl b) => .ok (.val (.bl (!b))) st
  | _ => .bad
def fOwnNe (call : CallT) (id cl : Nat) (Ts : List String) (m n : EM) : FM := fun ρ st => (m ρ st).bind fun p st1 => (n ρ st1).bind fun q st2 => if (insOf cl p st2).isSome && rightOk cl Ts q st2 then (call id [p, q] st2).noex.bind kNe else .bad
section
variable {X : Cx} {CX : CXT} {k : Nat} {g C : Addr} {fd : FuncData} {ps : List Str} {sp : Sp} {pos : Pos} {a b : Expr} {ta tb : TE} {Ts : List String}
def tOwnNe (K : PySem.W.Frag) (C : Addr) (Ts : List String) (sp : Sp) (ta tb : TE) : TE := fun σ H Q => ta σ H fun x H1 => tb σ H1 fun y H2 => ∃ a dx fs, x = .ref a ∧ H2 a = some (.ins C dx fs) ∧ RightOk K C Ts H2 y ∧ sp [x, y] H2 (fun v H' => ∃ k : Bool, v = .bl k ∧ Q (.bl (!k)) H') fun _ _ _ => False
theorem ne_step {pins : List (Addr × Obj)} {s : Shared} {σ : L2.St} {H : Hp} {x y : V} {v u : Value} {Q : VK} (o : OneC X.K C) (c : CmpC X.K C g "__eq__" Ts) (F : FnOk X.prog X.w X.K X.mg X.base (L2.CX X.prog X.w) k g fd ps sp) (hr : Room (k + 1) X.A) (hb : Binds X.K fd ps []) (I : Inv X pins σ H s) (rx : RelV x v) (ry : RelV y u)
    (q : ∃ a dx fs, x = .ref a ∧ H a = some (.ins C dx fs) ∧ RightOk X.K C Ts H y ∧ sp [x, y] H (fun v H' => ∃ k : Bool, v = .bl k ∧ Q (.bl (!k)) H') fun _ _ _ => False) : wpAny (model X.prog X.w) X.A (compareOp .NotEq v u) (EP X pins σ Q) X.xe s := by
  obtain ⟨a', dx, fs, ex, ea, ok, q⟩ := q
  subst ex
  cases (show v = Value.ref a' from rx)
  obtain ⟨od, J⟩ := inst_at I ea
  have r2 : Vals [V.ref a', y] [Value.ref a', u] := .cons rfl (.cons ry .nil)
  have hl : [Value.ref a', u].length = ps.length := by rw [← r2.length]; exact F.len _ _ _ _ q
  have bd := hb s [Value.ref a', u] I.kIn (by rw [List.append_nil]; exact hl)
  rw [List.append_nil] at bd
  have go : wpAny (model X.prog X.w) X.A.in1 (call (.ref g) [.ref a', u]) (fun v s' => ∃ b, v = .bool b ∧ EP X pins σ Q (.bool (!b)) s') X.xe s :=
    wpAny_call (codeAny_mono (F.run X.A.in1 X.stack s H ⟨[Value.ref a', u], []⟩ [Value.ref a', u] [V.ref a', y] _ (fun _ _ _ => False) hr.in1 I.env0.in1 bd r2 q) fun res s' hq => by
      cases res with
      | error e =>
        obtain ⟨_, _, _, _, _, _, _, _, _, _, _, _, z⟩ := hq
        exact z.elim
      | ok fl =>
        cases fl with
        | ret u' =>
          obtain ⟨v, H', I2, rv, i, ei, qi⟩ := I.after hq
          subst ei
          exact ⟨i, rv, V.bl (!i), H', I2, rfl, qi⟩
        | next => exact False.elim hq
        | brk => exact False.elim hq
        | cont => exact False.elim hq)
  rcases ok with ⟨b', dy, gs, ey, eb⟩ | ⟨T, hT, ty⟩
  · subst ey
    cases (show u = Value.ref b' from ry)
    obtain ⟨od', J'⟩ := inst_at I eb
    exact neRich hr.in1.units0 I.kIn J J'.type (.inl rfl) c.at_ o go
  · exact neRich hr.in1.units0 I.kIn J (looks_ty I ry ty) (.inr (c.sub T hT)) c.at_ o go
theorem pe_neOwn (o : OneC X.K C) (c : CmpC X.K C g "__eq__" Ts) (F : FnOk X.prog X.w X.K X.mg X.base (L2.CX X.prog X.w) k g fd ps sp) (hr : Room (k + 1) X.A) (hb : Binds X.K fd ps []) (ha : PE X a ta) (hbb : PE X b tb) (hm : behindInMarks .NotEq b = false) : PE X (.Compare a [.NotEq] [b] pos) (tOwnNe X.K C Ts sp ta tb) :=
  ⟨fun pins s σ H Q I h => wpAny_Compare1 (binT ha hbb I h fun v u s2 x y H2 I2 rx ry q => ne_step o c F hr hb I2 rx ry q) hm⟩
theorem pt_neOwn (o : OneC X.K C) (c : CmpC X.K C g "__eq__" Ts) (F : FnOk X.prog X.w X.K X.mg X.base (L2.CX X.prog X.w) k g fd ps sp) (hr : Room (k + 1) X.A) (hb : Binds X.K fd ps []) (ha : PE X a ta) (hbb : PE X b tb) (hm : behindInMarks .NotEq b = false) : PT X (.Compare a [.NotEq] [b] pos) (tTest (tOwnNe X.K C Ts sp ta tb)) := by
  refine ⟨fun pins s σ H Q I h => ?_⟩
  refine wpAny_isTrue_Compare1 (thn (ha.run pins s σ H _ I h) fun v s1 ⟨x, H1, I1, r1, q1⟩ => thn (hbb.run pins s1 σ H1 _ I1 q1) fun u s2 ⟨y, H2, I2, r2, q2⟩ => thn (ne_step (Q := fun x H' => ∃ kk, x = V.bl kk ∧ Q kk H') o c F hr hb I2 r1 r2 q2) fun z s3 q3 => ?_) hm
  obtain ⟨z', H3, I3, r3, kk, e, q3⟩ := q3
  subst e
  cases (show z = Value.bool kk from r3)
  first
    | exact wpAny_truthy_bool ⟨H3, I3, q3⟩
    | exact ⟨_, wpAny_truthy_bool ⟨H3, I3, q3⟩⟩
end
section
variable {cm : Nat → Option Addr} {X : Cx} {W : WX} {pos p : Pos} {m n : EM} {a b : Expr} {cl id k : Nat} {C g : Addr} {call : CallT} {fd : FuncData} {ps : List Str} {Ts : List String}
theorem w_ownNe (hcm : cm cl = some C) {σ : L2.St} {H : Hp} {Q : VK} : tF (cnOf X cm) W (fOwnNe call id cl Ts m n) σ H Q → tOwnNe X.K C Ts (spF (cnOf X cm) (call id)) (tE (cnOf X cm) W m) (tE (cnOf X cm) W n) σ H Q := fun ⟨B, ρ, st, G, R, h⟩ =>
  ⟨B, ρ, st, G, R, Out.bindR early_F R h fun p st1 H1 G1 x s1 R1 rx h1 => ⟨B, ρ, st1, G1, R1, Out.bindR early_F R1 h1 fun q st2 H2 G2 y s2 R2 ry h2 => by
    by_cases hb : ((insOf cl p st2).isSome && rightOk cl Ts q st2) = true
    · rw [if_pos hb] at h2
      obtain ⟨b1, b2⟩ := Bool.and_eq_true_iff.mp hb
      have rx2 := rx.up s2.toGExt
      obtain ⟨a, dx, fs, ev, ha⟩ := ins_here R2.toSRel rx2 hcm b1
      refine ⟨a, dx, fs, ev, ha, right_here R2.toSRel ry hcm b2, [p, q], st2, G2, R2.toSRel, .cons rx2 (.cons ry .nil), ?_⟩
      cases hc : call id [p, q] st2 with
      | bad => rw [hc] at h2; exact h2
      | ex _ _ _ _ => rw [hc] at h2; exact h2.elim
      | ok sv st3 =>
        rw [hc] at h2
        intro H3 G3 v s3 S3 rv
        have h3 : Out (cnOf X cm) (rpF (cnOf X cm)) G2 H2 Q (fun cls d H' => W cls d σ H') (kNe sv st3) := h2
        cases sv with
        | val q =>
          cases q with
          | bl i =>
            cases (show RepV (cnOf X cm) G3 v (.bl i) from rv)
            exact ⟨i, rfl, h3 H3 G3 _ s3 S3 .bl⟩
          | _ => exact h3.elim
        | _ => exact h3.elim
    · rw [if_neg hb] at h2
      exact h2.elim⟩⟩
theorem cf_neOwn (o : OneC X.K C) (c : CmpC X.K C g "__eq__" Ts) (hcm : cm cl = some C) (F : FnOk X.prog X.w X.K X.mg X.base (L2.CX X.prog X.w) k g fd ps (spF (cnOf X cm) (call id))) (hr : Room (k + 1) X.A) (hb : Binds X.K fd ps []) (tk : Takes X W) (ha : CE cm X W m a) (hbb : CE cm X W n b)
    (hm : behindInMarks .NotEq b = false := by first | exact nomark _ | rfl) : CF cm X W (fOwnNe call id cl Ts m n) (.Compare a [.NotEq] [b] pos) := PE.weak (pe_neOwn o c F hr hb ha hbb hm) fun σ H Q h => w_ownNe hcm h
theorem ct_neOwn (o : OneC X.K C) (c : CmpC X.K C g "__eq__" Ts) (hcm : cm cl = some C) (F : FnOk X.prog X.w X.K X.mg X.base (L2.CX X.prog X.w) k g fd ps (spF (cnOf X cm) (call id))) (hr : Room (k + 1) X.A) (hb : Binds X.K fd ps []) (tk : Takes X W) (ha : CE cm X W m a) (hbb : CE cm X W n b)
    (hm : behindInMarks .NotEq b = false := by first | exact nomark _ | rfl) : CT cm X W (tVal (eFrz (fOwnNe call id cl Ts m n))) (.Compare a [.NotEq] [b] pos) := PT.weak (pt_neOwn o c F hr hb ha hbb hm) fun σ H Q h => w_ownNe hcm (w_frz (tE_tVal h))
end
end BR
set_option Elab.async false
set_option linter.all false
set_option maxRecDepth 100000
/-! PD: the package's bodies as the generator reads them. -/
namespace BP
open BR PySem
/-- is_whole -/
def b64 (call : CallT) : SM := sRet (fVal (eAnd (eOp1 (pIsI ["int"]) (eVar 0)) (eNot (eOp1 (pIsI ["bool"]) (eVar 0)))))
def fn64 : Fn := ⟨1, 1, none, b64⟩
/-- common -/
def b65 (call : CallT) : SM := sSeq (sPar 0 1 (fVal (eOpN nAbs (aCons (eVar 0) (aNil)))) (fVal (eOpN nAbs (aCons (eVar 1) (aNil))))) (sSeq (sWhile (tVal (eOp2 pGt (eVar 1) (eC (.int 0)))) (sPar 0 1 (fVal (eVar 1)) (fVal (eOp2 pSub (eVar 0) (eOp2 pMul (eOp2 pDiv (eVar 0) (eVar 1)) (eVar 1)))))) (sRet (fVal (eVar 0))))
def fn65 : Fn := ⟨2, 2, none, b65⟩
/-- multiple -/
def b66 (call : CallT) : SM := sRet (fVal (eOp2 pMul (eOp2 pDiv (eVar 0) (eFrz (fCall call 65 (aCons (eVar 0) (aCons (eVar 1) (aNil)))))) (eVar 1)))
def fn66 : Fn := ⟨2, 2, none, b66⟩
/-- fraction -/
def b67 (call : CallT) : SM := sSeq (sIf (tVal (eOp2 pLt (eVar 1) (eC (.int 0)))) (sPar 0 1 (fVal (eOp1 pNeg (eVar 0))) (fVal (eOp1 pNeg (eVar 1)))) (sNil)) (sSeq (sSet 2 (fVal (eFrz (fCall call 65 (aCons (eVar 0) (aCons (eVar 1) (aNil))))))) (sRet (fVal (eTup (aCons (eOp2 pDiv (eVar 0) (eVar 2)) (aCons (eOp2 pDiv (eVar 1) (eVar 2)) (aNil)))))))
def fn67 : Fn := ⟨2, 3, none, b67⟩
/-- is_fraction -/
def b68 (call : CallT) : SM := sSeq (sIf (tOr (tNot (tVal (eOp1 (pIsI ["tuple"]) (eVar 0)))) (tOr (tVal (eOp2 pNe (eOp1S nLenS (eVar 0)) (eC (.int 2)))) (tOr (tNot (tVal (eFrz (fCall call 64 (aCons (eOp2S pIdxS (eVar 0) (eC (.int 0))) (aNil)))))) (tNot (tVal (eFrz (fCall call 64 (aCons (eOp2S pIdxS (eVar 0) (eC (.int 1))) (aNil))))))))) (sRet (fVal (eC (.bl false)))) (sNil)) (sRet (fVal (eAnd (eOp2 pGt (eOp2S pIdxS (eVar 0) (eC (.int 1))) (eC (.int 0))) (eOp2 pEq (eFrz (fCall call 65 (aCons (eOp2S pIdxS (eVar 0) (eC (.int 0))) (aCons (eOp2S pIdxS (eVar 0) (eC (.int 1))) (aNil))))) (eC (.int 1))))))
def fn68 : Fn := ⟨1, 1, none, b68⟩
/-- added -/
def b69 (call : CallT) : SM := sRet (fCall call 67 (aCons (eOp2 pAdd (eOp2 pMul (eOp2S pIdxS (eVar 0) (eC (.int 0))) (eOp2S pIdxS (eVar 1) (eC (.int 1)))) (eOp2 pMul (eOp2S pIdxS (eVar 1) (eC (.int 0))) (eOp2S pIdxS (eVar 0) (eC (.int 1))))) (aCons (eOp2 pMul (eOp2S pIdxS (eVar 0) (eC (.int 1))) (eOp2S pIdxS (eVar 1) (eC (.int 1)))) (aNil))))
def fn69 : Fn := ⟨2, 2, none, b69⟩
/-- less -/
def b70 (call : CallT) : SM := sRet (fCall call 67 (aCons (eOp2 pSub (eOp2 pMul (eOp2S pIdxS (eVar 0) (eC (.int 0))) (eOp2S pIdxS (eVar 1) (eC (.int 1)))) (eOp2 pMul (eOp2S pIdxS (eVar 1) (eC (.int 0))) (eOp2S pIdxS (eVar 0) (eC (.int 1))))) (aCons (eOp2 pMul (eOp2S pIdxS (eVar 0) (eC (.int 1))) (eOp2S pIdxS (eVar 1) (eC (.int 1)))) (aNil))))
def fn70 : Fn := ⟨2, 2, none, b70⟩
/-- product -/
def b71 (call : CallT) : SM := sRet (fCall call 67 (aCons (eOp2 pMul (eOp2S pIdxS (eVar 0) (eC (.int 0))) (eOp2S pIdxS (eVar 1) (eC (.int 0)))) (aCons (eOp2 pMul (eOp2S pIdxS (eVar 0) (eC (.int 1))) (eOp2S pIdxS (eVar 1) (eC (.int 1)))) (aNil))))
def fn71 : Fn := ⟨2, 2, none, b71⟩
/-- over -/
def b72 (call : CallT) : SM := sRet (fCall call 67 (aCons (eOp2 pMul (eOp2S pIdxS (eVar 0) (eC (.int 0))) (eOp2S pIdxS (eVar 1) (eC (.int 1)))) (aCons (eOp2 pMul (eOp2S pIdxS (eVar 0) (eC (.int 1))) (eOp2S pIdxS (eVar 1) (eC (.int 0)))) (aNil))))
def fn72 : Fn := ⟨2, 2, none, b72⟩
/-- is_less -/
def b73 (call : CallT) : SM := sRet (fVal (eOp2 pLt (eOp2 pMul (eOp2S pIdxS (eVar 0) (eC (.int 0))) (eOp2S pIdxS (eVar 1) (eC (.int 1)))) (eOp2 pMul (eOp2S pIdxS (eVar 1) (eC (.int 0))) (eOp2S pIdxS (eVar 0) (eC (.int 1))))))
def fn73 : Fn := ⟨2, 2, none, b73⟩
/-- floor -/
def b74 (call : CallT) : SM := sRet (fVal (eOp2 pDiv (eOp2S pIdxS (eVar 0) (eC (.int 0))) (eOp2S pIdxS (eVar 0) (eC (.int 1)))))
def fn74 : Fn := ⟨1, 1, none, b74⟩
/-- ceiling -/
def b75 (call : CallT) : SM := sRet (fVal (eOp1 pNeg (eOp2 pDiv (eOp1 pNeg (eOp2S pIdxS (eVar 0) (eC (.int 0)))) (eOp2S pIdxS (eVar 0) (eC (.int 1))))))
def fn75 : Fn := ⟨1, 1, none, b75⟩
/-- round_of -/
def b76 (call : CallT) : SM := sSeq (sSet 2 (fVal (eFrz (fCall call 66 (aCons (eOp2S pIdxS (eVar 0) (eC (.int 1))) (aCons (eOp2S pIdxS (eVar 1) (eC (.int 1))) (aNil))))))) (sRet (fCall call 67 (aCons (eFrz (fCall call 66 (aCons (eOp2 pMul (eOp2S pIdxS (eVar 0) (eC (.int 0))) (eOp2 pDiv (eVar 2) (eOp2S pIdxS (eVar 0) (eC (.int 1))))) (aCons (eOp2 pMul (eOp2S pIdxS (eVar 1) (eC (.int 0))) (eOp2 pDiv (eVar 2) (eOp2S pIdxS (eVar 1) (eC (.int 1))))) (aNil))))) (aCons (eVar 2) (aNil)))))
def fn76 : Fn := ⟨2, 3, none, b76⟩
/-- beyond -/
def b77 (call : CallT) : SM := sRet (fCall call 70 (aCons (eVar 0) (aCons (eFrz (fCall call 71 (aCons (eVar 1) (aCons (eTup (aCons (eFrz (fCall call 74 (aCons (eFrz (fCall call 72 (aCons (eVar 0) (aCons (eVar 1) (aNil))))) (aNil)))) (aCons (eC (.int 1)) (aNil)))) (aNil))))) (aNil))))
def fn77 : Fn := ⟨2, 2, none, b77⟩
/-- in_order -/
def b78 (call : CallT) : SM := sSeq (sSet 1 (fVal (eC (.int 1)))) (sSeq (sFor (wItems (eVar 0)) (gTup [gName 3, gName 4]) (sSet 1 (fVal (eFrz (fCall call 66 (aCons (eVar 1) (aCons (eOp2S pIdxS (eVar 3) (eC (.int 1))) (aNil)))))))) (sSeq (sSet 2 (fVal (eOpN nSortIS (aCons (eFrz (fLc (wItems (eVar 0)) [3, 4] (gTup [gName 3, gName 4]) (tYes) (eTup (aCons (eOp2 pMul (eOp2S pIdxS (eVar 3) (eC (.int 0))) (eOp2 pDiv (eVar 1) (eOp2S pIdxS (eVar 3) (eC (.int 1))))) (aCons (eVar 4) (aNil)))))) (aNil))))) (sRet (fLc (wItems (eVar 2)) [5, 4] (gTup [gName 5, gName 4]) (tYes) (eTup (aCons (eFrz (fCall call 67 (aCons (eVar 5) (aCons (eVar 1) (aNil))))) (aCons (eVar 4) (aNil))))))))
def fn78 : Fn := ⟨1, 6, none, b78⟩
/-- Reader___init__ -/
def b79 (call : CallT) : SM := sSeq (sSelf 2 0 "whole" (eVar 1)) (sSelf 2 0 "at" (eC (.int 0)))
def fn79 : Fn := ⟨1, 2, some 2, b79⟩
/-- Reader_refuse -/
def b80 (call : CallT) : SM := sRaise1 3 "at" (eAttr 2 "at" (eVar 0))
def fn80 : Fn := ⟨1, 1, none, b80⟩
/-- Reader_peek -/
def b81 (call : CallT) : SM := sSeq (sWhile (tAnd (tVal (eOp2 pEq (eCutS (eAttr 2 "whole" (eVar 0)) (oSome (eAttr 2 "at" (eVar 0))) (oSome (eOp2 pAdd (eAttr 2 "at" (eVar 0)) (eC (.int 1))))) (eC (.str [32])))) (tVal (eOp2 pLt (eAttr 2 "at" (eVar 0)) (eC (.int 60))))) (sAttrAug pAddI 2 "at" (eVar 0) (eC (.int 1)))) (sSeq (sIf (tAnd (tVal (eOp2 pEq (eAttr 2 "at" (eVar 0)) (eC (.int 60)))) (tVal (eOp2 pGt (eOp1S nLenS (eAttr 2 "whole" (eVar 0))) (eC (.int 60))))) (sDrop (eFrz (fMeth call 80 2 "refuse" (eVar 0) aNil))) (sNil)) (sRet (fVal (eCutS (eAttr 2 "whole" (eVar 0)) (oSome (eAttr 2 "at" (eVar 0))) (oSome (eOp2 pAdd (eAttr 2 "at" (eVar 0)) (eC (.int 1))))))))
def fn81 : Fn := ⟨1, 1, none, b81⟩
/-- Reader_take -/
def b82 (call : CallT) : SM := sSeq (sSet 2 (fVal (eFrz (fMeth call 81 2 "peek" (eVar 0) aNil)))) (sSeq (sIf (tOr (tVal (eOp2 pEq (eVar 2) (eC (.str [])))) (tVal (eOp2 pNotIn (eVar 2) (eVar 1)))) (sDrop (eFrz (fMeth call 80 2 "refuse" (eVar 0) aNil))) (sNil)) (sSeq (sAttrAug pAddI 2 "at" (eVar 0) (eC (.int 1))) (sRet (fVal (eVar 2)))))
def fn82 : Fn := ⟨2, 3, none, b82⟩
/-- Reader_digit -/
def b83 (call : CallT) : SM := sRet (fVal (eOpN nInt (aCons (eFrz (fMeth call 82 2 "take" (eVar 0) (aCons (eCutS (eC (.str [49, 50, 51, 52, 53, 54, 55, 56, 57])) (oSome (eOp2 pSub (eVar 1) (eC (.int 1)))) (oNone)) (aNil)))) (aNil))))
def fn83 : Fn := ⟨2, 2, none, b83⟩
/-- Reader_item -/
def b84 (call : CallT) : SM := sSeq (sSet 2 (fVal (eFrz (fMeth call 85 2 "core" (eVar 0) (aCons (eVar 1) (aNil)))))) (sSeq (sWhile (tAnd (tVal (eOp2 pNe (eFrz (fMeth call 81 2 "peek" (eVar 0) aNil)) (eC (.str [])))) (tVal (eOp2 pIn (eFrz (fMeth call 81 2 "peek" (eVar 0) aNil)) (eC (.str [42, 62, 126, 33]))))) (sSet 2 (fVal (eFrz (fMeth call 86 2 "with_tail" (eVar 0) (aCons (eVar 2) (aCons (eVar 1) (aNil)))))))) (sRet (fVal (eVar 2))))
def fn84 : Fn := ⟨2, 3, none, b84⟩
/-- Reader_core -/
def b85 (call : CallT) : SM := sSeq (sSet 2 (fVal (eFrz (fMeth call 82 2 "take" (eVar 0) (aCons (eIf (tVal (eOp2 pEq (eVar 1) (eC (.int 8)))) (eCutS (eC (.str [97, 98, 99, 100, 45, 91, 123, 40])) (oNone) (oSome (eC (.int 5)))) (eC (.str [97, 98, 99, 100, 45, 91, 123, 40]))) (aNil)))))) (sSeq (sIf (tVal (eOp2 pIn (eVar 2) (eC (.str [97, 98, 99, 100])))) (sRet (fVal (eTup (aCons (eC (.str [115, 116, 114, 111, 107, 101])) (aCons (eVar 2) (aNil)))))) (sNil)) (sSeq (sIf (tVal (eOp2 pEq (eVar 2) (eC (.str [45])))) (sRet (fVal (eTup (aCons (eC (.str [114, 101, 115, 116])) (aCons (eC (.str [])) (aNil)))))) (sNil)) (sSeq (sSet 3 (fLst (aCons (eFrz (fMeth call 84 2 "item" (eVar 0) (aCons (eOp2 pAdd (eVar 1) (eC (.int 1))) (aNil)))) (aNil)))) (sSeq (sWhile (tAnd (tVal (eOp2 pNe (eFrz (fMeth call 81 2 "peek" (eVar 0) aNil)) (eC (.str [])))) (tVal (eOp2 pIn (eFrz (fMeth call 81 2 "peek" (eVar 0) aNil)) (eC (.str [97, 98, 99, 100, 45, 91, 123, 40]))))) (sApp 3 (eFrz (fMeth call 84 2 "item" (eVar 0) (aCons (eOp2 pAdd (eVar 1) (eC (.int 1))) (aNil)))))) (sSeq (sDrop (eFrz (fMeth call 82 2 "take" (eVar 0) (aCons (eTab [([91], [93]), ([123], [125]), ([40], [41])] (eVar 2)) (aNil))))) (sRet (fVal (eTup (aCons (eTab [([91], [114, 111, 119]), ([123], [115, 116, 97, 99, 107]), ([40], [116, 117, 114, 110, 115])] (eVar 2)) (aCons (eTupOwn 3) (aNil)))))))))))
def fn85 : Fn := ⟨2, 4, none, b85⟩
/-- Reader_with_tail -/
def b86 (call : CallT) : SM := sSeq (sSet 3 (fVal (eFrz (fMeth call 82 2 "take" (eVar 0) (aCons (eC (.str [42, 62, 126, 33])) (aNil)))))) (sSeq (sIf (tVal (eOp2 pEq (eVar 3) (eC (.str [42])))) (sSeq (sSet 4 (fVal (eFrz (fMeth call 83 2 "digit" (eVar 0) (aCons (eC (.int 1)) (aNil)))))) (sSeq (sDrop (eFrz (fMeth call 82 2 "take" (eVar 0) (aCons (eC (.str [47])) (aNil))))) (sRet (fVal (eTup (aCons (eC (.str [113, 117, 105, 99, 107])) (aCons (eVar 1) (aCons (eVar 4) (aCons (eFrz (fMeth call 83 2 "digit" (eVar 0) (aCons (eC (.int 1)) (aNil)))) (aNil)))))))))) (sNil)) (sSeq (sIf (tVal (eOp2 pEq (eVar 3) (eC (.str [62])))) (sSeq (sSet 5 (fVal (eFrz (fMeth call 83 2 "digit" (eVar 0) (aCons (eC (.int 1)) (aNil)))))) (sSeq (sIf (tVal (eOp2 pEq (eVar 5) (eC (.int 9)))) (sSeq (sAttrAug pSub 2 "at" (eVar 0) (eC (.int 1))) (sDrop (eFrz (fMeth call 80 2 "refuse" (eVar 0) aNil)))) (sNil)) (sSeq (sDrop (eFrz (fMeth call 82 2 "take" (eVar 0) (aCons (eC (.str [47])) (aNil))))) (sRet (fVal (eTup (aCons (eC (.str [108, 97, 116, 101])) (aCons (eVar 1) (aCons (eVar 5) (aCons (eFrz (fMeth call 83 2 "digit" (eVar 0) (aCons (eOp2 pAdd (eVar 5) (eC (.int 1))) (aNil)))) (aNil))))))))))) (sNil)) (sSeq (sIf (tVal (eOp2 pEq (eVar 3) (eC (.str [126])))) (sRet (fVal (eTup (aCons (eC (.str [102, 114, 97, 109, 101])) (aCons (eVar 1) (aCons (eFrz (fMeth call 83 2 "digit" (eVar 0) (aCons (eC (.int 1)) (aNil)))) (aNil))))))) (sNil)) (sSeq (sSet 4 (fVal (eFrz (fMeth call 83 2 "digit" (eVar 0) (aCons (eC (.int 2)) (aNil)))))) (sRet (fVal (eTup (aCons (eC (.str [101, 97, 99, 104])) (aCons (eVar 1) (aCons (eVar 4) (aCons (eFrz (fMeth call 85 2 "core" (eVar 0) (aCons (eVar 2) (aNil)))) (aNil))))))))))))
def fn86 : Fn := ⟨3, 6, none, b86⟩
/-- tree_of -/
def b87 (call : CallT) : SM := sSeq (sIf (tNot (tVal (eOp1 (pIsI ["str"]) (eVar 0)))) (sRaise1 3 "at" (eC (.int 0))) (sNil)) (sSeq (sSet 1 (fVal (eFrz (fMake call 79 true (aCons (eVar 0) (aNil)))))) (sSeq (sSet 2 (fVal (eFrz (fMeth call 84 2 "item" (eVar 1) (aCons (eC (.int 0)) (aNil)))))) (sSeq (sIf (tVal (eOp2 pNe (eFrz (fMeth call 81 2 "peek" (eVar 1) aNil)) (eC (.str [])))) (sDrop (eFrz (fMeth call 80 2 "refuse" (eVar 1) aNil))) (sNil)) (sRet (fVal (eVar 2))))))
def fn87 : Fn := ⟨1, 3, none, b87⟩
/-- greatest -/
def b88 (call : CallT) : SM := sSeq (sSet 1 (fVal (eOp2S pIdxS (eVar 0) (eC (.int 0))))) (sSeq (sFor (wItems (eVar 0)) (gName 2) (sIf (tVal (eFrz (fCall call 73 (aCons (eVar 1) (aCons (eVar 2) (aNil)))))) (sSet 1 (fVal (eVar 2))) (sNil))) (sRet (fVal (eVar 1))))
def fn88 : Fn := ⟨1, 3, none, b88⟩
/-- size_of -/
def b89 (call : CallT) : SM := sSeq (sMatch (eOp2S pIdxS (eVar 0) (eC (.int 0))) [([[114, 111, 119]], sSeq (sSet 1 (fVal (eTup (aCons (eC (.int 0)) (aCons (eC (.int 1)) (aNil)))))) (sSeq (sFor (wItems (eOp2S pIdxS (eVar 0) (eC (.int 1)))) (gName 2) (sSet 1 (fVal (eFrz (fCall call 69 (aCons (eVar 1) (aCons (eFrz (fCall call 89 (aCons (eVar 2) (aNil)))) (aNil)))))))) (sRet (fVal (eVar 1))))), ([[115, 116, 97, 99, 107]], sSeq (sSet 1 (fVal (eFrz (fCall call 89 (aCons (eOp2S pIdxS (eOp2S pIdxS (eVar 0) (eC (.int 1))) (eC (.int 0))) (aNil)))))) (sSeq (sFor (wItems (eOp2S pIdxS (eVar 0) (eC (.int 1)))) (gName 2) (sSet 1 (fVal (eFrz (fCall call 76 (aCons (eVar 1) (aCons (eFrz (fCall call 89 (aCons (eVar 2) (aNil)))) (aNil)))))))) (sRet (fVal (eVar 1))))), ([[116, 117, 114, 110, 115]], sRet (fCall call 88 (aCons (eFrz (fLc (wItems (eOp2S pIdxS (eVar 0) (eC (.int 1)))) [2] (gName 2) (tYes) (eFrz (fCall call 89 (aCons (eVar 2) (aNil)))))) (aNil)))), ([[101, 97, 99, 104]], sRet (fCall call 88 (aCons (eFrz (fLst (aCons (eFrz (fCall call 89 (aCons (eOp2S pIdxS (eVar 0) (eC (.int 1))) (aNil)))) (aCons (eFrz (fCall call 89 (aCons (eOp2S pIdxS (eVar 0) (eC (.int 3))) (aNil)))) (aNil))))) (aNil)))), ([[113, 117, 105, 99, 107]], sRet (fCall call 71 (aCons (eFrz (fCall call 89 (aCons (eOp2S pIdxS (eVar 0) (eC (.int 1))) (aNil)))) (aCons (eFrz (fCall call 67 (aCons (eOp2S pIdxS (eVar 0) (eC (.int 3))) (aCons (eOp2S pIdxS (eVar 0) (eC (.int 2))) (aNil))))) (aNil))))), ([[108, 97, 116, 101]], sRet (fCall call 89 (aCons (eOp2S pIdxS (eVar 0) (eC (.int 1))) (aNil)))), ([[102, 114, 97, 109, 101]], sRet (fVal (eTup (aCons (eOp2S pIdxS (eVar 0) (eC (.int 2))) (aCons (eC (.int 1)) (aNil))))))]) (sRet (fVal (eTup (aCons (eC (.int 1)) (aCons (eC (.int 1)) (aNil))))))
def fn89 : Fn := ⟨1, 3, none, b89⟩
/-- turns_of -/
def b90 (call : CallT) : SM := sSeq (sMatch (eOp2S pIdxS (eVar 0) (eC (.int 0))) [([[114, 111, 119], [115, 116, 97, 99, 107], [116, 117, 114, 110, 115]], sSeq (sSet 1 (fVal (eC (.int 1)))) (sSeq (sFor (wItems (eOp2S pIdxS (eVar 0) (eC (.int 1)))) (gName 2) (sSet 1 (fVal (eFrz (fCall call 66 (aCons (eVar 1) (aCons (eFrz (fCall call 90 (aCons (eVar 2) (aNil)))) (aNil)))))))) (sRet (fVal (eIf (tVal (eOp2 pEq (eOp2S pIdxS (eVar 0) (eC (.int 0))) (eC (.str [116, 117, 114, 110, 115])))) (eOp2 pMul (eVar 1) (eOp1S nLenS (eOp2S pIdxS (eVar 0) (eC (.int 1))))) (eVar 1)))))), ([[101, 97, 99, 104]], sRet (fVal (eOp2 pMul (eOp2S pIdxS (eVar 0) (eC (.int 2))) (eFrz (fCall call 66 (aCons (eFrz (fCall call 90 (aCons (eOp2S pIdxS (eVar 0) (eC (.int 1))) (aNil)))) (aCons (eFrz (fCall call 90 (aCons (eOp2S pIdxS (eVar 0) (eC (.int 3))) (aNil)))) (aNil)))))))), ([[113, 117, 105, 99, 107], [108, 97, 116, 101]], sRet (fCall call 90 (aCons (eOp2S pIdxS (eVar 0) (eC (.int 1))) (aNil))))]) (sRet (fVal (eC (.int 1))))
def fn90 : Fn := ⟨1, 3, none, b90⟩
/-- need_few -/
def b91 (call : CallT) : SM := sIf (tVal (eOp2 pGt (eVar 0) (eC (.int 1000)))) (sRaise1 4 "count" (eVar 0)) (sNil)
def fn91 : Fn := ⟨1, 1, none, b91⟩
/-- moved -/
def b92 (call : CallT) : SM := sRet (fLc (wItems (eVar 0)) [2, 3] (gTup [gName 2, gName 3]) (tYes) (eTup (aCons (eFrz (fCall call 69 (aCons (eVar 2) (aCons (eVar 1) (aNil))))) (aCons (eVar 3) (aNil)))))
def fn92 : Fn := ⟨2, 4, none, b92⟩
/-- once -/
def b93 (call : CallT) : SM := sSeq (sSet 1 (fVal (eFrz (fListD (eDc (wItems (eVar 0)) [2] (gName 2) (tYes) (eVar 2) (eC (.bl true))))))) (sSeq (sDrop (eFrz (fCall call 91 (aCons (eOp1S nLenS (eVar 1)) (aNil))))) (sRet (fVal (eVar 1))))
def fn93 : Fn := ⟨1, 3, none, b93⟩
/-- run_of -/
def b94 (call : CallT) : SM := sSeq (sDrop (eFrz (fCall call 91 (aCons (eVar 2) (aNil))))) (sSeq (sPar 4 5 (fLst (aNil)) (fVal (eFrz (fCall call 89 (aCons (eVar 0) (aNil)))))) (sSeq (sFor (wRng1 (eVar 2)) (gName 3) (sSeq (sExt 4 (eFrz (fCall call 92 (aCons (eFrz (fCall call 99 (aCons (eVar 0) (aCons (eOp2 pAdd (eVar 1) (eVar 3)) (aNil))))) (aCons (eFrz (fCall call 71 (aCons (eVar 5) (aCons (eTup (aCons (eVar 3) (aCons (eC (.int 1)) (aNil)))) (aNil))))) (aNil)))))) (sDrop (eFrz (fCall call 91 (aCons (eLenOwn 4) (aNil))))))) (sRetV 4)))
def fn94 : Fn := ⟨3, 6, none, b94⟩
/-- row_of -/
def b95 (call : CallT) : SM := sSeq (sPar 3 4 (fLst (aNil)) (fVal (eTup (aCons (eC (.int 0)) (aCons (eC (.int 1)) (aNil)))))) (sSeq (sFor (wItems (eVar 0)) (gName 2) (sSeq (sExt 3 (eFrz (fCall call 92 (aCons (eFrz (fCall call 99 (aCons (eVar 2) (aCons (eVar 1) (aNil))))) (aCons (eVar 4) (aNil)))))) (sSet 4 (fVal (eFrz (fCall call 69 (aCons (eVar 4) (aCons (eFrz (fCall call 89 (aCons (eVar 2) (aNil)))) (aNil))))))))) (sRetV 3))
def fn95 : Fn := ⟨2, 5, none, b95⟩
/-- stack_of -/
def b96 (call : CallT) : SM := sSeq (sPar 3 4 (fLst (aNil)) (fVal (eFrz (fCall call 89 (aCons (eVar 0) (aNil)))))) (sSeq (sFor (wItems (eOp2S pIdxS (eVar 0) (eC (.int 1)))) (gName 2) (sSeq (sSet 5 (fVal (eOp2S pIdxS (eFrz (fCall call 72 (aCons (eVar 4) (aCons (eFrz (fCall call 89 (aCons (eVar 2) (aNil)))) (aNil))))) (eC (.int 0))))) (sExt 3 (eFrz (fCall call 94 (aCons (eVar 2) (aCons (eOp2 pMul (eVar 1) (eVar 5)) (aCons (eVar 5) (aNil))))))))) (sRetV 3))
def fn96 : Fn := ⟨2, 6, none, b96⟩
/-- late_of -/
def b97 (call : CallT) : SM := sSeq (sSet 2 (fVal (eFrz (fCall call 89 (aCons (eVar 0) (aNil)))))) (sSeq (sSet 3 (fVal (eFrz (fCall call 71 (aCons (eVar 2) (aCons (eFrz (fCall call 67 (aCons (eOp2S pIdxS (eVar 0) (eC (.int 2))) (aCons (eOp2S pIdxS (eVar 0) (eC (.int 3))) (aNil))))) (aNil))))))) (sRet (fLc (wItems (eFrz (fCall call 99 (aCons (eOp2S pIdxS (eVar 0) (eC (.int 1))) (aCons (eVar 1) (aNil)))))) [4, 5] (gTup [gName 4, gName 5]) (tYes) (eTup (aCons (eFrz (fCall call 77 (aCons (eFrz (fCall call 69 (aCons (eVar 4) (aCons (eVar 3) (aNil))))) (aCons (eVar 2) (aNil))))) (aCons (eVar 5) (aNil)))))))
def fn97 : Fn := ⟨2, 6, none, b97⟩
/-- frame_of -/
def b98 (call : CallT) : SM := sSeq (sSet 1 (fVal (eTup (aCons (eOp2S pIdxS (eVar 0) (eC (.int 2))) (aCons (eC (.int 1)) (aNil)))))) (sSeq (sSet 2 (fVal (eFrz (fCall call 94 (aCons (eOp2S pIdxS (eVar 0) (eC (.int 1))) (aCons (eC (.int 0)) (aCons (eFrz (fCall call 75 (aCons (eFrz (fCall call 72 (aCons (eVar 1) (aCons (eFrz (fCall call 89 (aCons (eOp2S pIdxS (eVar 0) (eC (.int 1))) (aNil)))) (aNil))))) (aNil)))) (aNil)))))))) (sRet (fLc (wItems (eVar 2)) [3, 4] (gTup [gName 3, gName 4]) (tVal (eFrz (fCall call 73 (aCons (eVar 3) (aCons (eVar 1) (aNil)))))) (eTup (aCons (eVar 3) (aCons (eVar 4) (aNil)))))))
def fn98 : Fn := ⟨1, 5, none, b98⟩
/-- turn_of -/
def b99 (call : CallT) : SM := sSeq (sMatch (eOp2S pIdxS (eVar 0) (eC (.int 0))) [([[115, 116, 114, 111, 107, 101]], sRet (fLst (aCons (eTup (aCons (eTup (aCons (eC (.int 0)) (aCons (eC (.int 1)) (aNil)))) (aCons (eOp2S pIdxS (eVar 0) (eC (.int 1))) (aNil)))) (aNil)))), ([[114, 101, 115, 116]], sRet (fLst (aNil))), ([[114, 111, 119]], sRet (fCall call 93 (aCons (eFrz (fCall call 95 (aCons (eOp2S pIdxS (eVar 0) (eC (.int 1))) (aCons (eVar 1) (aNil))))) (aNil)))), ([[115, 116, 97, 99, 107]], sRet (fCall call 93 (aCons (eFrz (fCall call 96 (aCons (eVar 0) (aCons (eVar 1) (aNil))))) (aNil)))), ([[116, 117, 114, 110, 115]], sSeq (sSet 2 (fVal (eOp1S nLenS (eOp2S pIdxS (eVar 0) (eC (.int 1)))))) (sRet (fCall call 99 (aCons (eOp2S pIdxS (eOp2S pIdxS (eVar 0) (eC (.int 1))) (eOp2 pSub (eVar 1) (eOp2 pMul (eOp2 pDiv (eVar 1) (eVar 2)) (eVar 2)))) (aCons (eOp2 pDiv (eVar 1) (eVar 2)) (aNil)))))), ([[101, 97, 99, 104]], sSeq (sSet 3 (fVal (eOp2 pDiv (eVar 1) (eOp2S pIdxS (eVar 0) (eC (.int 2)))))) (sSeq (sIf (tVal (eOp2 pGt (eOp2 pDiv (eOp2 pAdd (eVar 1) (eC (.int 1))) (eOp2S pIdxS (eVar 0) (eC (.int 2)))) (eVar 3))) (sRet (fCall call 99 (aCons (eOp2S pIdxS (eVar 0) (eC (.int 3))) (aCons (eVar 3) (aNil))))) (sNil)) (sRet (fCall call 99 (aCons (eOp2S pIdxS (eVar 0) (eC (.int 1))) (aCons (eOp2 pSub (eVar 1) (eVar 3)) (aNil))))))), ([[113, 117, 105, 99, 107]], sSeq (sSet 4 (fVal (eFrz (fCall call 67 (aCons (eOp2S pIdxS (eVar 0) (eC (.int 3))) (aCons (eOp2S pIdxS (eVar 0) (eC (.int 2))) (aNil))))))) (sRet (fLc (wItems (eFrz (fCall call 99 (aCons (eOp2S pIdxS (eVar 0) (eC (.int 1))) (aCons (eVar 1) (aNil)))))) [5, 6] (gTup [gName 5, gName 6]) (tYes) (eTup (aCons (eFrz (fCall call 71 (aCons (eVar 5) (aCons (eVar 4) (aNil))))) (aCons (eVar 6) (aNil))))))), ([[108, 97, 116, 101]], sRet (fCall call 93 (aCons (eFrz (fCall call 97 (aCons (eVar 0) (aCons (eVar 1) (aNil))))) (aNil))))]) (sRet (fCall call 93 (aCons (eFrz (fCall call 98 (aCons (eVar 0) (aNil)))) (aNil))))
def fn99 : Fn := ⟨2, 7, none, b99⟩
/-- beats_of -/
def b100 (call : CallT) : SM := sSeq (sSet 1 (fLst (aNil))) (sSeq (sFor (wItems (eFrz (fCall call 78 (aCons (eVar 0) (aNil))))) (gTup [gName 2, gName 3]) (sIf (tAnd (tVal (eEmpOwn 1 true)) (tVal (eOp2 pEq (eOp2S pIdxS (eIdxOwn 1 (eOp1 pNeg (eC (.int 1)))) (eC (.int 0))) (eVar 2)))) (sSetIx 1 (eTup (aCons (eVar 2) (aCons (eOp2 pAdd (eOp2S pIdxS (eIdxOwn 1 (eOp1 pNeg (eC (.int 1)))) (eC (.int 1))) (eVar 3)) (aNil)))) (eOp1 pNeg (eC (.int 1)))) (sApp 1 (eTup (aCons (eVar 2) (aCons (eVar 3) (aNil))))))) (sRetV 1))
def fn100 : Fn := ⟨1, 4, none, b100⟩
/-- length -/
def b101 (call : CallT) : SM := sRet (fCall call 89 (aCons (eFrz (fCall call 87 (aCons (eVar 0) (aNil)))) (aNil)))
def fn101 : Fn := ⟨1, 1, none, b101⟩
/-- turns -/
def b102 (call : CallT) : SM := sRet (fCall call 90 (aCons (eFrz (fCall call 87 (aCons (eVar 0) (aNil)))) (aNil)))
def fn102 : Fn := ⟨1, 1, none, b102⟩
/-- strokes -/
def b103 (call : CallT) : SM := sSeq (sSet 3 (fVal (eFrz (fCall call 87 (aCons (eVar 0) (aNil)))))) (sSeq (sIf (tNot (tVal (eFrz (fCall call 73 (aCons (eVar 1) (aCons (eVar 2) (aNil))))))) (sRet (fLst (aNil))) (sNil)) (sSeq (sSet 4 (fVal (eFrz (fCall call 89 (aCons (eVar 3) (aNil)))))) (sSeq (sPar 7 8 (fVal (eFrz (fCall call 74 (aCons (eFrz (fCall call 72 (aCons (eVar 1) (aCons (eVar 4) (aNil))))) (aNil))))) (fVal (eFrz (fCall call 75 (aCons (eFrz (fCall call 72 (aCons (eVar 2) (aCons (eVar 4) (aNil))))) (aNil)))))) (sSeq (sSet 5 (fLst (aNil))) (sSeq (sFor (wRng2 (eVar 7) (eVar 8)) (gName 6) (sFor (wItems (eFrz (fCall call 92 (aCons (eFrz (fCall call 99 (aCons (eVar 3) (aCons (eVar 6) (aNil))))) (aCons (eFrz (fCall call 71 (aCons (eVar 4) (aCons (eTup (aCons (eVar 6) (aCons (eC (.int 1)) (aNil)))) (aNil))))) (aNil)))))) (gTup [gName 9, gName 10]) (sIf (tAnd (tNot (tVal (eFrz (fCall call 73 (aCons (eVar 9) (aCons (eVar 1) (aNil))))))) (tVal (eFrz (fCall call 73 (aCons (eVar 9) (aCons (eVar 2) (aNil))))))) (sApp 5 (eTup (aCons (eVar 9) (aCons (eVar 10) (aNil))))) (sNil)))) (sSeq (sFrz 5) (sRet (fCall call 100 (aCons (eVar 5) (aNil))))))))))
def fn103 : Fn := ⟨3, 11, none, b103⟩
/-- whole_round -/
def b104 (call : CallT) : SM := sSeq (sSet 1 (fVal (eFrz (fCall call 87 (aCons (eVar 0) (aNil)))))) (sSeq (sSet 2 (fVal (eFrz (fCall call 90 (aCons (eVar 1) (aNil)))))) (sRet (fVal (eTup (aCons (eFrz (fCall call 71 (aCons (eFrz (fCall call 89 (aCons (eVar 1) (aNil)))) (aCons (eTup (aCons (eVar 2) (aCons (eC (.int 1)) (aNil)))) (aNil))))) (aCons (eFrz (fCall call 94 (aCons (eVar 1) (aCons (eC (.int 0)) (aCons (eVar 2) (aNil)))))) (aNil)))))))
def fn104 : Fn := ⟨1, 3, none, b104⟩
/-- is_time -/
def b105 (call : CallT) : SM := sRet (fVal (eAnd (eFrz (fCall call 68 (aCons (eVar 0) (aNil)))) (eOp2 pGt (eOp2S pIdxS (eVar 0) (eC (.int 0))) (eC (.int 0)))))
def fn105 : Fn := ⟨1, 1, none, b105⟩
/-- are_letters -/
def b106 (call : CallT) : SM := sSeq (sIf (tOr (tNot (tVal (eOp1 (pIsI ["str"]) (eVar 0)))) (tOr (tVal (eOp2 pEq (eVar 0) (eC (.str [])))) (tNot (tVal (eOpN nAll (aCons (eFrz (fLc (wItems (eVar 0)) [3] (gName 3) (tYes) (eOp2 pIn (eVar 3) (eC (.str [97, 98, 99, 100]))))) (aNil))))))) (sRet (fVal (eC (.bl false)))) (sNil)) (sRet (fVal (eOpN nAll (aCons (eFrz (fLc (wZipS (eVar 0) (eCutS (eVar 0) (oSome (eC (.int 1))) (oNone))) [1, 2] (gTup [gName 1, gName 2]) (tYes) (eOp2 pLt (eVar 1) (eVar 2)))) (aNil)))))
def fn106 : Fn := ⟨1, 4, none, b106⟩
/-- is_beat -/
def b107 (call : CallT) : SM := sSeq (sIf (tOr (tNot (tVal (eOp1 (pIsI ["tuple"]) (eVar 0)))) (tOr (tVal (eOp2 pNe (eOp1S nLenS (eVar 0)) (eC (.int 2)))) (tNot (tVal (eFrz (fCall call 68 (aCons (eOp2S pIdxS (eVar 0) (eC (.int 0))) (aNil)))))))) (sRet (fVal (eC (.bl false)))) (sNil)) (sRet (fVal (eAnd (eOp2 pGe (eOp2S pIdxS (eOp2S pIdxS (eVar 0) (eC (.int 0))) (eC (.int 0))) (eC (.int 0))) (eFrz (fCall call 106 (aCons (eOp2S pIdxS (eVar 0) (eC (.int 1))) (aNil)))))))
def fn107 : Fn := ⟨1, 1, none, b107⟩
/-- are_beats -/
def b108 (call : CallT) : SM := sSeq (sIf (tNot (tVal (eOpN nAll (aCons (eFrz (fLc (wItems (eVar 0)) [2] (gName 2) (tYes) (eFrz (fCall call 107 (aCons (eVar 2) (aNil)))))) (aNil))))) (sRet (fVal (eC (.bl false)))) (sNil)) (sSeq (sIf (tNot (tVal (eOpN nAll (aCons (eFrz (fLc (wZip (eVar 0) (eCutS (eVar 0) (oSome (eC (.int 1))) (oNone))) [3, 4] (gTup [gName 3, gName 4]) (tYes) (eFrz (fCall call 73 (aCons (eOp2S pIdxS (eVar 3) (eC (.int 0))) (aCons (eOp2S pIdxS (eVar 4) (eC (.int 0))) (aNil))))))) (aNil))))) (sRet (fVal (eC (.bl false)))) (sNil)) (sRet (fVal (eOpN nAll (aCons (eFrz (fLc (wItems (eVar 0)) [2] (gName 2) (tYes) (eFrz (fCall call 73 (aCons (eOp2S pIdxS (eVar 2) (eC (.int 0))) (aCons (eVar 1) (aNil))))))) (aNil))))))
def fn108 : Fn := ⟨2, 5, none, b108⟩
/-- comes_round -/
def b109 (call : CallT) : SM := sSeq (sFor (wEnumT (eCutS (eVar 0) (oNone) (oSome (eOp1 pNeg (eVar 1))))) (gTup [gName 3, gTup [gName 5, gName 6]]) (sSeq (sSet 4 (fVal (eOp2S pIdxS (eVar 0) (eOp2 pAdd (eVar 3) (eVar 1))))) (sIf (tOr (tVal (eOp2 pNe (eOp2S pIdxS (eVar 4) (eC (.int 1))) (eVar 6))) (tVal (eOp2 pNe (eFrz (fCall call 70 (aCons (eOp2S pIdxS (eVar 4) (eC (.int 0))) (aCons (eVar 5) (aNil))))) (eVar 2)))) (sRet (fVal (eC (.bl false)))) (sNil)))) (sRet (fVal (eC (.bl true))))
def fn109 : Fn := ⟨3, 7, none, b109⟩
/-- least_form -/
def b110 (call : CallT) : SM := sSeq (sIf (tVal (eOp2 pEq (eOp1S nLenS (eVar 1)) (eC (.int 0)))) (sRet (fVal (eTup (aCons (eTup (aCons (eC (.int 1)) (aCons (eC (.int 1)) (aNil)))) (aCons (eTup (aNil)) (aNil)))))) (sNil)) (sSeq (sSet 2 (fVal (eOp1S nLenS (eVar 1)))) (sSeq (sFor (wRngD (eVar 2) (eC (.int 0))) (gName 3) (sIf (tVal (eOp2 pEq (eOp2 pMul (eOp2 pDiv (eVar 2) (eVar 3)) (eVar 3)) (eVar 2))) (sSeq (sPar 4 5 (fVal (eFrz (fCall call 72 (aCons (eVar 0) (aCons (eTup (aCons (eVar 3) (aCons (eC (.int 1)) (aNil)))) (aNil)))))) (fVal (eOp2 pDiv (eVar 2) (eVar 3)))) (sIf (tAnd (tVal (eFrz (fCall call 73 (aCons (eOp2S pIdxS (eOp2S pIdxS (eVar 1) (eOp2 pSub (eVar 5) (eC (.int 1)))) (eC (.int 0))) (aCons (eVar 4) (aNil)))))) (tVal (eFrz (fCall call 109 (aCons (eVar 1) (aCons (eVar 5) (aCons (eVar 4) (aNil)))))))) (sRet (fVal (eTup (aCons (eVar 4) (aCons (eOpN nTuple (aCons (eCutS (eVar 1) (oNone) (oSome (eVar 5))) (aNil))) (aNil)))))) (sNil))) (sNil))) (sRet (fVal (eTup (aCons (eVar 0) (aCons (eOpN nTuple (aCons (eVar 1) (aNil))) (aNil))))))))
def fn110 : Fn := ⟨2, 6, none, b110⟩
/-- Rhythm___init__ -/
def b111 (call : CallT) : SM := sSeq (sIf (tNot (tVal (eFrz (fCall call 105 (aCons (eVar 1) (aNil)))))) (sRaise0 5) (sNil)) (sSeq (sIf (tOr (tNot (tVal (eOp1 (pIsI ["tuple"]) (eVar 2)))) (tNot (tVal (eFrz (fCall call 108 (aCons (eVar 2) (aCons (eVar 1) (aNil)))))))) (sRaise0 6) (sNil)) (sSeq (sAsg (eFrz (fCall call 110 (aCons (eVar 1) (aCons (eVar 2) (aNil))))) (gTup [gSelf 0 0 "size", gSelf 0 0 "row"])) (sSelf 0 0 "letters_at" (eOpN nDict (aCons (eSelf 0 0 "row") (aNil))))))
def fn111 : Fn := ⟨2, 3, some 0, b111⟩
/-- Rhythm_period -/
def b112 (call : CallT) : SM := sRet (fVal (eAttr 0 "size" (eVar 0)))
def fn112 : Fn := ⟨1, 1, none, b112⟩
/-- Rhythm_beats -/
def b113 (call : CallT) : SM := sRet (fVal (eAttr 0 "row" (eVar 0)))
def fn113 : Fn := ⟨1, 1, none, b113⟩
/-- Rhythm___eq__ -/
def b114 (call : CallT) : SM := sRet (fVal (eAnd (eOp1S (pIsiOwn 0 ["tuple"]) (eVar 1)) (eAnd (eOp2 pEq (eAttr 0 "size" (eVar 0)) (eAttr 0 "size" (eVar 1))) (eOp2 pEq (eAttr 0 "row" (eVar 0)) (eAttr 0 "row" (eVar 1))))))
def fn114 : Fn := ⟨2, 2, none, b114⟩
/-- Rhythm___len__ -/
def b115 (call : CallT) : SM := sRet (fVal (eOp1S nLenS (eAttr 0 "row" (eVar 0))))
def fn115 : Fn := ⟨1, 1, none, b115⟩
/-- Rhythm_sound -/
def b116 (call : CallT) : SM := sRet (fVal (eDGet (eAttr 0 "letters_at" (eVar 0)) (eFrz (fCall call 77 (aCons (eVar 1) (aCons (eAttr 0 "size" (eVar 0)) (aNil))))) (eC (.str []))))
def fn116 : Fn := ⟨2, 2, none, b116⟩
/-- Rhythm_between -/
def b117 (call : CallT) : SM := sSeq (sSet 3 (fLst (aNil))) (sSeq (sFor (wRng2 (eFrz (fCall call 74 (aCons (eFrz (fCall call 72 (aCons (eVar 1) (aCons (eAttr 0 "size" (eVar 0)) (aNil))))) (aNil)))) (eFrz (fCall call 75 (aCons (eFrz (fCall call 72 (aCons (eVar 2) (aCons (eAttr 0 "size" (eVar 0)) (aNil))))) (aNil))))) (gName 4) (sSeq (sSet 5 (fVal (eFrz (fCall call 71 (aCons (eAttr 0 "size" (eVar 0)) (aCons (eTup (aCons (eVar 4) (aCons (eC (.int 1)) (aNil)))) (aNil))))))) (sFor (wItems (eAttr 0 "row" (eVar 0))) (gTup [gName 6, gName 7]) (sSeq (sSet 8 (fVal (eFrz (fCall call 69 (aCons (eVar 5) (aCons (eVar 6) (aNil))))))) (sIf (tAnd (tNot (tVal (eFrz (fCall call 73 (aCons (eVar 8) (aCons (eVar 1) (aNil))))))) (tVal (eFrz (fCall call 73 (aCons (eVar 8) (aCons (eVar 2) (aNil))))))) (sApp 3 (eTup (aCons (eVar 8) (aCons (eVar 7) (aNil))))) (sNil)))))) (sRetV 3))
def fn117 : Fn := ⟨3, 9, none, b117⟩
/-- Rhythm_strokes_to -/
def b118 (call : CallT) : SM := sSeq (sSet 2 (fLst (aNil))) (sSeq (sFor (wRng1 (eOp2S pIdxS (eFrz (fCall call 72 (aCons (eVar 1) (aCons (eAttr 0 "size" (eVar 0)) (aNil))))) (eC (.int 0)))) (gName 3) (sSeq (sSet 4 (fVal (eFrz (fCall call 71 (aCons (eAttr 0 "size" (eVar 0)) (aCons (eTup (aCons (eVar 3) (aCons (eC (.int 1)) (aNil)))) (aNil))))))) (sFor (wItems (eAttr 0 "row" (eVar 0))) (gTup [gName 5, gName 6]) (sExt 2 (eFrz (fLc (wItems (eVar 6)) [7] (gName 7) (tYes) (eTup (aCons (eFrz (fCall call 69 (aCons (eVar 4) (aCons (eVar 5) (aNil))))) (aCons (eVar 7) (aNil)))))))))) (sRetV 2))
def fn118 : Fn := ⟨2, 8, none, b118⟩
/-- Rhythm___or__ -/
def b119 (call : CallT) : SM := sSeq (sIf (tNot (tVal (eOp1S (pIsiOwn 0 ["tuple"]) (eVar 1)))) (sBad) (sNil)) (sRet (fCall call 126 (aCons (eVar 0) (aCons (eVar 1) (aNil)))))
def fn119 : Fn := ⟨2, 2, none, b119⟩
/-- Rhythm___add__ -/
def b120 (call : CallT) : SM := sSeq (sIf (tNot (tVal (eOp1S (pIsiOwn 0 ["tuple"]) (eVar 1)))) (sBad) (sNil)) (sSeq (sSet 2 (fVal (eOpN nTuple (aCons (eFrz (fLc (wItems (eAttr 0 "row" (eVar 1))) [3, 4] (gTup [gName 3, gName 4]) (tYes) (eTup (aCons (eFrz (fCall call 69 (aCons (eAttr 0 "size" (eVar 0)) (aCons (eVar 3) (aNil))))) (aCons (eVar 4) (aNil)))))) (aNil))))) (sSeq (sDrop (eFrz (fCall call 91 (aCons (eOp2 pAdd (eOp1S nLenS (eAttr 0 "row" (eVar 0))) (eOp1S nLenS (eVar 2))) (aNil))))) (sRet (fMake call 111 false (aCons (eFrz (fCall call 69 (aCons (eAttr 0 "size" (eVar 0)) (aCons (eAttr 0 "size" (eVar 1)) (aNil))))) (aCons (eOp2 pAdd (eAttr 0 "row" (eVar 0)) (eVar 2)) (aNil)))))))
def fn120 : Fn := ⟨2, 5, none, b120⟩
/-- Rhythm___rshift__ -/
def b121 (call : CallT) : SM := sSeq (sIf (tNot (tVal (eFrz (fCall call 68 (aCons (eVar 1) (aNil)))))) (sRaise0 7) (sNil)) (sRet (fCall call 124 (aCons (eAttr 0 "size" (eVar 0)) (aCons (eFrz (fLc (wItems (eAttr 0 "row" (eVar 0))) [2, 3] (gTup [gName 2, gName 3]) (tYes) (eTup (aCons (eFrz (fCall call 77 (aCons (eFrz (fCall call 69 (aCons (eVar 2) (aCons (eVar 1) (aNil))))) (aCons (eAttr 0 "size" (eVar 0)) (aNil))))) (aCons (eVar 3) (aNil)))))) (aNil)))))
def fn121 : Fn := ⟨2, 4, none, b121⟩
/-- Rhythm___mul__ -/
def b122 (call : CallT) : SM := sSeq (sIf (tNot (tVal (eFrz (fCall call 105 (aCons (eVar 1) (aNil)))))) (sRaise0 7) (sNil)) (sRet (fMake call 111 false (aCons (eFrz (fCall call 72 (aCons (eAttr 0 "size" (eVar 0)) (aCons (eVar 1) (aNil))))) (aCons (eOpN nTuple (aCons (eFrz (fLc (wItems (eAttr 0 "row" (eVar 0))) [2, 3] (gTup [gName 2, gName 3]) (tYes) (eTup (aCons (eFrz (fCall call 72 (aCons (eVar 2) (aCons (eVar 1) (aNil))))) (aCons (eVar 3) (aNil)))))) (aNil))) (aNil)))))
def fn122 : Fn := ⟨2, 4, none, b122⟩
/-- Rhythm_only -/
def b123 (call : CallT) : SM := sSeq (sIf (tOr (tNot (tVal (eOp1 (pIsI ["str"]) (eVar 1)))) (tNot (tVal (eOpN nAll (aCons (eFrz (fLc (wItems (eVar 1)) [5] (gName 5) (tYes) (eOp2 pIn (eVar 5) (eC (.str [97, 98, 99, 100]))))) (aNil)))))) (sRaise0 7) (sNil)) (sSeq (sSet 2 (fVal (eFrz (fLc (wItems (eAttr 0 "row" (eVar 0))) [3, 4] (gTup [gName 3, gName 4]) (tYes) (eTup (aCons (eVar 3) (aCons (eJoin (eC (.str [])) (eFrz (fLc (wItems (eVar 4)) [5] (gName 5) (tVal (eOp2 pIn (eVar 5) (eVar 1))) (eVar 5)))) (aNil)))))))) (sRet (fMake call 111 false (aCons (eAttr 0 "size" (eVar 0)) (aCons (eOpN nTuple (aCons (eFrz (fLc (wItems (eVar 2)) [3, 4] (gTup [gName 3, gName 4]) (tVal (eOp2 pNe (eVar 4) (eC (.str [])))) (eTup (aCons (eVar 3) (aCons (eVar 4) (aNil)))))) (aNil))) (aNil))))))
def fn123 : Fn := ⟨2, 6, none, b123⟩
/-- rhythm_of -/
def b124 (call : CallT) : SM := sRet (fMake call 111 false (aCons (eVar 0) (aCons (eOpN nTuple (aCons (eFrz (fCall call 100 (aCons (eVar 1) (aNil)))) (aNil))) (aNil))))
def fn124 : Fn := ⟨2, 2, none, b124⟩
/-- common_round -/
def b125 (call : CallT) : SM := sSeq (sSet 2 (fVal (eFrz (fCall call 76 (aCons (eAttr 0 "size" (eVar 0)) (aCons (eAttr 0 "size" (eVar 1)) (aNil))))))) (sSeq (sFor (wItems (eTup (aCons (eVar 0) (aCons (eVar 1) (aNil))))) (gName 3) (sDrop (eFrz (fCall call 91 (aCons (eOp2 pMul (eOp2S pIdxS (eFrz (fCall call 72 (aCons (eVar 2) (aCons (eAttr 0 "size" (eVar 3)) (aNil))))) (eC (.int 0))) (eOp1S nLenS (eAttr 0 "row" (eVar 3)))) (aNil)))))) (sRet (fVal (eVar 2))))
def fn125 : Fn := ⟨2, 4, none, b125⟩
/-- both_of -/
def b126 (call : CallT) : SM := sSeq (sSet 2 (fVal (eFrz (fCall call 125 (aCons (eVar 0) (aCons (eVar 1) (aNil))))))) (sSeq (sSet 3 (fVal (eDc (wItems (eOp2 pAdd (eFrz (fMeth call 118 0 "strokes_to" (eVar 0) (aCons (eVar 2) (aNil)))) (eFrz (fMeth call 118 0 "strokes_to" (eVar 1) (aCons (eVar 2) (aNil)))))) [5] (gName 5) (tYes) (eVar 5) (eC (.bl true))))) (sSeq (sSet 4 (fVal (eFrz (fCall call 100 (aCons (eFrz (fListD (eVar 3))) (aNil)))))) (sSeq (sDrop (eFrz (fCall call 91 (aCons (eOp1S nLenS (eVar 4)) (aNil))))) (sRet (fMake call 111 false (aCons (eVar 2) (aCons (eOpN nTuple (aCons (eVar 4) (aNil))) (aNil))))))))
def fn126 : Fn := ⟨2, 6, none, b126⟩
/-- machine -/
def b127 (call : CallT) : SM := sSeq (sAsg (eFrz (fCall call 104 (aCons (eVar 0) (aNil)))) (gTup [gName 1, gName 2])) (sRet (fCall call 124 (aCons (eVar 1) (aCons (eVar 2) (aNil)))))
def fn127 : Fn := ⟨1, 3, none, b127⟩
/-- alike -/
def b128 (call : CallT) : SM := sRet (fOwn call 114 0 ["tuple"] (eVar 0) (eVar 1))
def fn128 : Fn := ⟨2, 2, none, b128⟩
/-- parting -/
def b130 (call : CallT) : SM := sSeq (sIf (tVal (eFrz (fOwn call 114 0 ["tuple"] (eVar 0) (eVar 1)))) (sRet (fVal (eC .non))) (sNil)) (sSeq (sSet 2 (fVal (eFrz (fCall call 69 (aCons (eAttr 0 "size" (eVar 0)) (aCons (eAttr 0 "size" (eVar 1)) (aNil))))))) (sSeq (sFor (wItems (eFrz (fCall call 129 (aCons (eVar 0) (aCons (eVar 1) (aCons (eFrz (fCall call 69 (aCons (eVar 2) (aCons (eVar 2) (aNil))))) (aNil))))))) (gName 3) (sIf (tVal (eOp2 pNe (eFrz (fMeth call 116 0 "sound" (eVar 0) (aCons (eVar 3) (aNil)))) (eFrz (fMeth call 116 0 "sound" (eVar 1) (aCons (eVar 3) (aNil)))))) (sRet (fVal (eTup (aCons (eVar 3) (aCons (eFrz (fMeth call 116 0 "sound" (eVar 0) (aCons (eVar 3) (aNil)))) (aCons (eFrz (fMeth call 116 0 "sound" (eVar 1) (aCons (eVar 3) (aNil)))) (aNil))))))) (sNil))) (sRet (fVal (eC .non)))))
def fn130 : Fn := ⟨2, 4, none, b130⟩
/-- together -/
def b131 (call : CallT) : SM := sSeq (sSet 2 (fVal (eFrz (fCall call 125 (aCons (eVar 0) (aCons (eVar 1) (aNil))))))) (sSeq (sSet 3 (fVal (eFrz (fLc (wItems (eFrz (fMeth call 117 0 "between" (eVar 0) (aCons (eTup (aCons (eC (.int 0)) (aCons (eC (.int 1)) (aNil)))) (aCons (eVar 2) (aNil)))))) [4, 5] (gTup [gName 4, gName 5]) (tVal (eOp2 pNe (eFrz (fMeth call 116 0 "sound" (eVar 1) (aCons (eVar 4) (aNil)))) (eC (.str [])))) (eVar 4))))) (sRet (fVal (eTup (aCons (eVar 2) (aCons (eOpN nTuple (aCons (eVar 3) (aNil))) (aNil)))))))
def fn131 : Fn := ⟨2, 6, none, b131⟩
/-- waits_of -/
def b132 (call : CallT) : SM := sSeq (sSet 1 (fVal (eFrz (fLc (wItems (eAttr 0 "row" (eVar 0))) [3, 4] (gTup [gName 3, gName 4]) (tYes) (eVar 3))))) (sSeq (sSet 2 (fVal (eOp2 pAdd (eFrz (fLc (wItems (eCutS (eVar 1) (oSome (eOp1 pNeg (eC (.int 1)))) (oNone))) [3] (gName 3) (tYes) (eFrz (fCall call 70 (aCons (eVar 3) (aCons (eAttr 0 "size" (eVar 0)) (aNil))))))) (eCutS (eVar 1) (oNone) (oSome (eOp1 pNeg (eC (.int 1)))))))) (sRet (fVal (eDc (wZip (eVar 1) (eVar 2)) [3, 5] (gTup [gName 3, gName 5]) (tYes) (eVar 3) (eFrz (fCall call 70 (aCons (eVar 3) (aCons (eVar 5) (aNil)))))))))
def fn132 : Fn := ⟨1, 6, none, b132⟩
/-- joins -/
def b133 (call : CallT) : SM := sSeq (sAsg (eFrz (fCall call 131 (aCons (eVar 0) (aCons (eVar 1) (aNil))))) (gTup [gName 4, gName 5])) (sSeq (sPar 6 7 (fVal (eFrz (fCall call 132 (aCons (eVar 0) (aNil))))) (fVal (eFrz (fCall call 132 (aCons (eVar 1) (aNil)))))) (sSeq (sSet 2 (fLst (aNil))) (sSeq (sFor (wItems (eVar 5)) (gName 3) (sIf (tAnd (tVal (eOp2 pEq (eFrz (fMeth call 116 0 "sound" (eVar 0) (aCons (eVar 3) (aNil)))) (eFrz (fMeth call 116 0 "sound" (eVar 1) (aCons (eVar 3) (aNil)))))) (tVal (eOp2 pEq (eOp2 pDIdx (eVar 6) (eFrz (fCall call 77 (aCons (eVar 3) (aCons (eAttr 0 "size" (eVar 0)) (aNil)))))) (eOp2 pDIdx (eVar 7) (eFrz (fCall call 77 (aCons (eVar 3) (aCons (eAttr 0 "size" (eVar 1)) (aNil))))))))) (sApp 2 (eVar 3)) (sNil))) (sRet (fVal (eTupOwn 2))))))
def fn133 : Fn := ⟨2, 8, none, b133⟩
/-- check_heard -/
def b136 (call : CallT) : SM := sIf (tOr (tNot (tVal (eOp1 (pIsI ["list", "tuple"]) (eVar 0)))) (tOr (tNot (tVal (eFrz (fCall call 105 (aCons (eVar 1) (aNil)))))) (tOr (tNot (tVal (eFrz (fCall call 105 (aCons (eVar 2) (aNil)))))) (tNot (tVal (eFrz (fCall call 108 (aCons (eVar 0) (aCons (eVar 1) (aNil)))))))))) (sRaise0 8) (sNil)
def fn136 : Fn := ⟨3, 3, none, b136⟩
/-- may_come_round -/
def b137 (call : CallT) : SM := sSeq (sFor (wItems (eVar 0)) (gTup [gName 4, gName 5]) (sSeq (sPar 6 7 (fVal (eFrz (fCall call 69 (aCons (eVar 4) (aCons (eVar 3) (aNil)))))) (fVal (eFrz (fCall call 70 (aCons (eVar 4) (aCons (eVar 3) (aNil))))))) (sSeq (sIf (tAnd (tVal (eFrz (fCall call 73 (aCons (eVar 6) (aCons (eVar 2) (aNil)))))) (tVal (eOp2 pNe (eDGet (eVar 1) (eVar 6) (eC (.str []))) (eVar 5)))) (sRet (fVal (eC (.bl false)))) (sNil)) (sIf (tAnd (tVal (eOp2 pGe (eOp2S pIdxS (eVar 7) (eC (.int 0))) (eC (.int 0)))) (tVal (eOp2 pNe (eDGet (eVar 1) (eVar 7) (eC (.str []))) (eVar 5)))) (sRet (fVal (eC (.bl false)))) (sNil))))) (sRet (fVal (eC (.bl true))))
def fn137 : Fn := ⟨4, 8, none, b137⟩
/-- rounds -/
def b138 (call : CallT) : SM := sSeq (sDrop (eFrz (fCall call 136 (aCons (eVar 0) (aCons (eVar 1) (aCons (eVar 2) (aNil))))))) (sSeq (sPar 4 5 (fVal (eOpN nDict (aCons (eVar 0) (aNil)))) (fLst (aNil))) (sSeq (sFor (wRng2 (eC (.int 1)) (eOp2 pAdd (eFrz (fCall call 74 (aCons (eFrz (fCall call 72 (aCons (eVar 1) (aCons (eVar 2) (aNil))))) (aNil)))) (eC (.int 1)))) (gName 3) (sSeq (sSet 6 (fVal (eFrz (fCall call 71 (aCons (eVar 2) (aCons (eTup (aCons (eVar 3) (aCons (eC (.int 1)) (aNil)))) (aNil))))))) (sIf (tVal (eFrz (fCall call 137 (aCons (eVar 0) (aCons (eVar 4) (aCons (eVar 1) (aCons (eVar 6) (aNil)))))))) (sApp 5 (eVar 6)) (sNil)))) (sRetV 5)))
def fn138 : Fn := ⟨3, 7, none, b138⟩
/-- next_beat -/
def b139 (call : CallT) : SM := sSeq (sSet 3 (fVal (eC .non))) (sSeq (sFor (wItems (eVar 0)) (gTup [gName 4, gName 5]) (sIf (tVal (eFrz (fCall call 73 (aCons (eVar 4) (aCons (eVar 2) (aNil)))))) (sSeq (sSet 6 (fVal (eFrz (fCall call 75 (aCons (eFrz (fCall call 72 (aCons (eFrz (fCall call 70 (aCons (eVar 1) (aCons (eVar 4) (aNil))))) (aCons (eVar 2) (aNil))))) (aNil)))))) (sSeq (sSet 7 (fVal (eFrz (fCall call 69 (aCons (eVar 4) (aCons (eFrz (fCall call 71 (aCons (eVar 2) (aCons (eTup (aCons (eVar 6) (aCons (eC (.int 1)) (aNil)))) (aNil))))) (aNil))))))) (sIf (tOr (tVal (eOp2 pIsN (eVar 3) (eC .non))) (tVal (eFrz (fCall call 73 (aCons (eVar 7) (aCons (eOp2S pIdxS (eVar 3) (eC (.int 0))) (aNil))))))) (sSet 3 (fVal (eTup (aCons (eVar 7) (aCons (eVar 5) (aNil)))))) (sNil)))) (sNil))) (sRet (fVal (eVar 3))))
def fn139 : Fn := ⟨3, 8, none, b139⟩
/-- expected -/
def b140 (call : CallT) : SM := sRet (fVal (eDc (wItems (eFrz (fCall call 138 (aCons (eVar 0) (aCons (eVar 1) (aCons (eVar 2) (aNil))))))) [3] (gName 3) (tYes) (eVar 3) (eFrz (fCall call 139 (aCons (eVar 0) (aCons (eVar 1) (aCons (eVar 3) (aNil))))))))
def fn140 : Fn := ⟨3, 4, none, b140⟩
/-- Player___init__ -/
def b141 (call : CallT) : SM := sSelf 1 0 "states" (eNewL (fLst (aCons (eTup (aCons (eTup (aCons (eC (.int 0)) (aCons (eC (.int 1)) (aNil)))) (aCons (eFrz (fCall call 127 (aCons (eVar 1) (aNil)))) (aCons (eTup (aNil)) (aNil))))) (aNil))))
def fn141 : Fn := ⟨1, 2, some 1, b141⟩
/-- Player_go -/
def b145 (call : CallT) : SM := sSeq (sAsg (eOp2S pIdxS (eAttr 1 "states" (eVar 0)) (eOp1 pNeg (eC (.int 1)))) (gTup [gName 3, gName 4, gName 5])) (sSeq (sIf (tOr (tNot (tVal (eFrz (fCall call 68 (aCons (eVar 1) (aNil)))))) (tVal (eFrz (fCall call 73 (aCons (eVar 1) (aCons (eVar 3) (aNil))))))) (sRaise0 9) (sNil)) (sSeq (sSet 2 (fVal (eFrz (fMeth call 117 0 "between" (eVar 4) (aCons (eVar 3) (aCons (eVar 1) (aNil))))))) (sSeq (sAppL (eAttr 1 "states" (eVar 0)) (eTup (aCons (eVar 1) (aCons (eVar 4) (aCons (eOp2 pAdd (eVar 5) (eOpN nTuple (aCons (eVar 2) (aNil)))) (aNil)))))) (sRet (fList (eVar 2))))))
def fn145 : Fn := ⟨2, 6, none, b145⟩
/-- Player_put_smoothly -/
def b147 (call : CallT) : SM := sSeq (sSet 2 (fVal (eFrz (fCall call 127 (aCons (eVar 1) (aNil)))))) (sSeq (sAsg (eOp2S pIdxS (eAttr 1 "states" (eVar 0)) (eOp1 pNeg (eC (.int 1)))) (gTup [gName 4, gName 5, gName 6])) (sSeq (sSet 3 (fVal (eFrz (fCall call 152 (aCons (eVar 5) (aCons (eVar 2) (aCons (eVar 4) (aNil)))))))) (sSeq (sAppL (eAttr 1 "states" (eVar 0)) (eTup (aCons (eVar 3) (aCons (eVar 2) (aCons (eOp2 pAdd (eVar 6) (eOpN nTuple (aCons (eFrz (fMeth call 117 0 "between" (eVar 5) (aCons (eVar 4) (aCons (eVar 3) (aNil))))) (aNil)))) (aNil)))))) (sRet (fVal (eVar 3))))))
def fn147 : Fn := ⟨2, 7, none, b147⟩
/-- Player_undo -/
def b148 (call : CallT) : SM := sSeq (sIf (tVal (eOp2 pEq (eOp1S nLenS (eAttr 1 "states" (eVar 0))) (eC (.int 1)))) (sRet (fVal (eC (.bl false)))) (sNil)) (sSeq (sPopL (eAttr 1 "states" (eVar 0))) (sRet (fVal (eC (.bl true)))))
def fn148 : Fn := ⟨1, 1, none, b148⟩
/-- next_join -/
def b152 (call : CallT) : SM := sSeq (sSet 3 (fVal (eFrz (fCall call 133 (aCons (eVar 0) (aCons (eVar 1) (aNil))))))) (sSeq (sIf (tVal (eOp2 pEq (eVar 3) (eTup (aNil)))) (sRaise0 10) (sNil)) (sSeq (sSet 4 (fVal (eFrz (fCall call 125 (aCons (eVar 0) (aCons (eVar 1) (aNil))))))) (sSeq (sSet 5 (fVal (eFrz (fCall call 77 (aCons (eVar 2) (aCons (eVar 4) (aNil))))))) (sSeq (sSet 6 (fVal (eFrz (fLc (wItems (eVar 3)) [8] (gName 8) (tNot (tVal (eFrz (fCall call 73 (aCons (eVar 8) (aCons (eVar 5) (aNil))))))) (eVar 8))))) (sSeq (sSet 7 (fVal (eFrz (fIf (tVal (eOp2 pNe (eVar 6) (eFrz (fLst (aNil))))) (fCall call 70 (aCons (eOp2S pIdxS (eVar 6) (eC (.int 0))) (aCons (eVar 5) (aNil)))) (fCall call 70 (aCons (eFrz (fCall call 69 (aCons (eOp2S pIdxS (eVar 3) (eC (.int 0))) (aCons (eVar 4) (aNil))))) (aCons (eVar 5) (aNil)))))))) (sRet (fCall call 69 (aCons (eVar 2) (aCons (eVar 7) (aNil))))))))))
def fn152 : Fn := ⟨3, 9, none, b152⟩
/-- _law_taken -/
def b160 (call : CallT) : SM := sSeq (sIf (tVal (eOp2 pGt (eOp2S pIdxS (eVar 0) (eC (.int 3))) (eC (.int 0)))) (sSeq (sSet 3 (fVal (eOp2 pMod (eOpN nInt (aCons (eOp2S pIdxS (eVar 0) (eC (.int 3))) (aNil))) (eVar 1)))) (sSeq (sSetIxL (eVar 0) (eOp2 pDiv (eOp2S pIdxS (eVar 0) (eC (.int 3))) (eVar 1)) (eC (.int 3))) (sRet (fVal (eVar 3))))) (sNil)) (sSeq (sSetIxL (eVar 0) (eOp2 pAdd (eOp2S pIdxS (eVar 0) (eC (.int 1))) (eC (.int 1))) (eC (.int 1))) (sSeq (sIf (tVal (eOp2 pGt (eOp2S pIdxS (eVar 0) (eC (.int 1))) (eOp1S nLenS (eOp2S pIdxS (eVar 0) (eC (.int 0)))))) (sSeq (sSetIxL (eVar 0) (eOp2 pMod (eOpN nInt (aCons (eOp2 pAdd (eOp2 pMul (eOp2S pIdxS (eVar 0) (eC (.int 2))) (eC (.int 48271))) (eC (.int 11))) (aNil))) (eC (.int 2147483647))) (eC (.int 2))) (sRet (fVal (eOp2 pMod (eOpN nInt (aCons (eOp2 pDiv (eOp2S pIdxS (eVar 0) (eC (.int 2))) (eC (.int 7))) (aNil))) (eVar 1))))) (sNil)) (sSeq (sSet 2 (fVal (eOp2S pIdxS (eOp2S pIdxS (eVar 0) (eC (.int 0))) (eOp2 pSub (eOp2S pIdxS (eVar 0) (eC (.int 1))) (eC (.int 1)))))) (sSeq (sSetIxL (eVar 0) (eOp2 pMod (eOpN nInt (aCons (eOp2 pAdd (eOp2 pAdd (eOp2 pMul (eOp2S pIdxS (eVar 0) (eC (.int 2))) (eC (.int 48271))) (eVar 2)) (eC (.int 11))) (aNil))) (eC (.int 2147483647))) (eC (.int 2))) (sSeq (sIf (tVal (eOp2 pGe (eVar 2) (eOp2 pPow (eC (.int 10)) (eC (.int 18))))) (sSetIxL (eVar 0) (eOp2 pDiv (eVar 2) (eVar 1)) (eC (.int 3))) (sNil)) (sRet (fVal (eOp2 pMod (eOpN nInt (aCons (eVar 2) (aNil))) (eVar 1)))))))))
def fn160 : Fn := ⟨2, 4, none, b160⟩
/-- _law_frac -/
def b161 (call : CallT) : SM := sSeq (sPar 2 3 (fVal (eOpN nAbs (aCons (eVar 0) (aNil)))) (fVal (eVar 1))) (sSeq (sWhile (tVal (eOp2 pGt (eVar 3) (eC (.int 0)))) (sPar 2 3 (fVal (eVar 3)) (fVal (eOp2 pMod (eVar 2) (eVar 3))))) (sRet (fVal (eTup (aCons (eOp2 pDiv (eVar 0) (eVar 2)) (aCons (eOp2 pDiv (eVar 1) (eVar 2)) (aNil)))))))
def fn161 : Fn := ⟨2, 4, none, b161⟩
/-- _law_sum -/
def b162 (call : CallT) : SM := sRet (fCall call 161 (aCons (eOp2 pAdd (eOp2 pMul (eOp2S pIdxS (eVar 0) (eC (.int 0))) (eOp2S pIdxS (eVar 1) (eC (.int 1)))) (eOp2 pMul (eOp2S pIdxS (eVar 1) (eC (.int 0))) (eOp2S pIdxS (eVar 0) (eC (.int 1))))) (aCons (eOp2 pMul (eOp2S pIdxS (eVar 0) (eC (.int 1))) (eOp2S pIdxS (eVar 1) (eC (.int 1)))) (aNil))))
def fn162 : Fn := ⟨2, 2, none, b162⟩
/-- _law_times -/
def b163 (call : CallT) : SM := sRet (fCall call 161 (aCons (eOp2 pMul (eOp2S pIdxS (eVar 0) (eC (.int 0))) (eOp2S pIdxS (eVar 1) (eC (.int 0)))) (aCons (eOp2 pMul (eOp2S pIdxS (eVar 0) (eC (.int 1))) (eOp2S pIdxS (eVar 1) (eC (.int 1)))) (aNil))))
def fn163 : Fn := ⟨2, 2, none, b163⟩
/-- _law_less -/
def b164 (call : CallT) : SM := sRet (fVal (eOp2 pLt (eOp2 pMul (eOp2S pIdxS (eVar 0) (eC (.int 0))) (eOp2S pIdxS (eVar 1) (eC (.int 1)))) (eOp2 pMul (eOp2S pIdxS (eVar 1) (eC (.int 0))) (eOp2S pIdxS (eVar 0) (eC (.int 1))))))
def fn164 : Fn := ⟨2, 2, none, b164⟩
/-- _law_lcm -/
def b165 (call : CallT) : SM := sRet (fVal (eOp2 pMul (eVar 0) (eOp2S pIdxS (eFrz (fCall call 161 (aCons (eVar 0) (aCons (eVar 1) (aNil))))) (eC (.int 1)))))
def fn165 : Fn := ⟨2, 2, none, b165⟩
/-- _law_tree -/
def b167 (call : CallT) : SM := sSeq (sSet 2 (fVal (eFrz (fCall call 160 (aCons (eVar 0) (aCons (eC (.int 12)) (aNil))))))) (sSeq (sIf (tOr (tVal (eOp2 pEq (eVar 1) (eC (.int 0)))) (tVal (eOp2 pLt (eVar 2) (eC (.int 3))))) (sSeq (sSet 3 (fVal (eOp2S pIdxS (eFrz (fLst (aCons (eC (.str [97])) (aCons (eC (.str [98])) (aCons (eC (.str [99])) (aCons (eC (.str [100])) (aCons (eC (.str [45])) (aCons (eC (.str [97])) (aCons (eC (.str [45])) (aNil)))))))))) (eFrz (fCall call 160 (aCons (eVar 0) (aCons (eC (.int 7)) (aNil)))))))) (sRet (fLst (aCons (eC (.str [111, 110, 101])) (aCons (eVar 3) (aNil)))))) (sNil)) (sSeq (sIf (tVal (eOp2 pLt (eVar 2) (eC (.int 8)))) (sSeq (sSet 4 (fVal (eFrz (fLc (wRng1 (eOp2 pAdd (eC (.int 1)) (eFrz (fCall call 160 (aCons (eVar 0) (aCons (eC (.int 3)) (aNil))))))) [6] (gName 6) (tYes) (eFrz (fCall call 167 (aCons (eVar 0) (aCons (eOp2 pSub (eVar 1) (eC (.int 1))) (aNil))))))))) (sRet (fLst (aCons (eOp2S pIdxS (eFrz (fLst (aCons (eC (.str [114, 111, 119])) (aCons (eC (.str [115, 116, 97, 99, 107])) (aCons (eC (.str [116, 117, 114, 110, 115])) (aNil)))))) (eFrz (fCall call 160 (aCons (eVar 0) (aCons (eC (.int 3)) (aNil)))))) (aCons (eVar 4) (aNil)))))) (sNil)) (sSeq (sIf (tVal (eOp2 pEq (eVar 2) (eC (.int 8)))) (sRet (fLst (aCons (eC (.str [113, 117, 105, 99, 107])) (aCons (eFrz (fCall call 167 (aCons (eVar 0) (aCons (eOp2 pSub (eVar 1) (eC (.int 1))) (aNil))))) (aCons (eOp2 pAdd (eC (.int 1)) (eFrz (fCall call 160 (aCons (eVar 0) (aCons (eC (.int 4)) (aNil)))))) (aCons (eOp2 pAdd (eC (.int 1)) (eFrz (fCall call 160 (aCons (eVar 0) (aCons (eC (.int 3)) (aNil)))))) (aNil))))))) (sNil)) (sSeq (sIf (tVal (eOp2 pEq (eVar 2) (eC (.int 9)))) (sSeq (sSet 5 (fVal (eOp2 pAdd (eC (.int 1)) (eFrz (fCall call 160 (aCons (eVar 0) (aCons (eC (.int 3)) (aNil)))))))) (sRet (fLst (aCons (eC (.str [108, 97, 116, 101])) (aCons (eFrz (fCall call 167 (aCons (eVar 0) (aCons (eOp2 pSub (eVar 1) (eC (.int 1))) (aNil))))) (aCons (eVar 5) (aCons (eOp2 pAdd (eOp2 pAdd (eVar 5) (eC (.int 1))) (eFrz (fCall call 160 (aCons (eVar 0) (aCons (eC (.int 2)) (aNil)))))) (aNil)))))))) (sNil)) (sSeq (sIf (tVal (eOp2 pEq (eVar 2) (eC (.int 10)))) (sRet (fLst (aCons (eC (.str [102, 114, 97, 109, 101])) (aCons (eFrz (fCall call 167 (aCons (eVar 0) (aCons (eOp2 pSub (eVar 1) (eC (.int 1))) (aNil))))) (aCons (eOp2 pAdd (eC (.int 1)) (eFrz (fCall call 160 (aCons (eVar 0) (aCons (eC (.int 5)) (aNil)))))) (aNil)))))) (sNil)) (sRet (fLst (aCons (eC (.str [101, 97, 99, 104])) (aCons (eFrz (fCall call 167 (aCons (eVar 0) (aCons (eOp2 pSub (eVar 1) (eC (.int 1))) (aNil))))) (aCons (eOp2 pAdd (eC (.int 2)) (eFrz (fCall call 160 (aCons (eVar 0) (aCons (eC (.int 2)) (aNil)))))) (aCons (eFrz (fCall call 168 (aCons (eVar 0) (aCons (eOp2 pSub (eVar 1) (eC (.int 1))) (aNil))))) (aNil))))))))))))
def fn167 : Fn := ⟨2, 7, none, b167⟩
/-- _law_core -/
def b168 (call : CallT) : SM := sSeq (sSet 2 (fVal (eFrz (fCall call 167 (aCons (eVar 0) (aCons (eVar 1) (aNil))))))) (sRet (fIf (tVal (eOp2 pIn (eOp2S pIdxS (eVar 2) (eC (.int 0))) (eTup (aCons (eC (.str [111, 110, 101])) (aCons (eC (.str [114, 111, 119])) (aCons (eC (.str [115, 116, 97, 99, 107])) (aCons (eC (.str [116, 117, 114, 110, 115])) (aNil)))))))) (fVal (eVar 2)) (fLst (aCons (eC (.str [114, 111, 119])) (aCons (eFrz (fLst (aCons (eVar 2) (aNil)))) (aNil))))))
def fn168 : Fn := ⟨2, 3, none, b168⟩
/-- _law_text -/
def b169 (call : CallT) : SM := sSeq (sSet 1 (fVal (eOp2S pIdxS (eVar 0) (eC (.int 0))))) (sSeq (sIf (tVal (eOp2 pEq (eVar 1) (eC (.str [111, 110, 101])))) (sRet (fVal (eOp2S pIdxS (eVar 0) (eC (.int 1))))) (sNil)) (sSeq (sIf (tVal (eOp2 pIn (eVar 1) (eTup (aCons (eC (.str [114, 111, 119])) (aCons (eC (.str [115, 116, 97, 99, 107])) (aCons (eC (.str [116, 117, 114, 110, 115])) (aNil))))))) (sSeq (sSet 3 (fVal (eTab [([114, 111, 119], [91, 93]), ([115, 116, 97, 99, 107], [123, 125]), ([116, 117, 114, 110, 115], [40, 41])] (eVar 1)))) (sRet (fVal (eOp2 pAdd (eOp2 pAdd (eOp2S pIdxS (eVar 3) (eC (.int 0))) (eJoin (eC (.str [])) (eFrz (fLc (wItems (eOp2S pIdxS (eVar 0) (eC (.int 1)))) [4] (gName 4) (tYes) (eFrz (fCall call 169 (aCons (eVar 4) (aNil)))))))) (eOp2S pIdxS (eVar 3) (eC (.int 1))))))) (sNil)) (sSeq (sSet 2 (fVal (eFrz (fCall call 169 (aCons (eOp2S pIdxS (eVar 0) (eC (.int 1))) (aNil)))))) (sSeq (sIf (tVal (eOp2 pEq (eVar 1) (eC (.str [113, 117, 105, 99, 107])))) (sRet (fVal (eOp2 pAdd (eOp2 pAdd (eOp2 pAdd (eOp2 pAdd (eVar 2) (eC (.str [42]))) (eOpN nStr (aCons (eOp2S pIdxS (eVar 0) (eC (.int 2))) (aNil)))) (eC (.str [47]))) (eOpN nStr (aCons (eOp2S pIdxS (eVar 0) (eC (.int 3))) (aNil)))))) (sNil)) (sSeq (sIf (tVal (eOp2 pEq (eVar 1) (eC (.str [108, 97, 116, 101])))) (sRet (fVal (eOp2 pAdd (eOp2 pAdd (eOp2 pAdd (eOp2 pAdd (eVar 2) (eC (.str [62]))) (eOpN nStr (aCons (eOp2S pIdxS (eVar 0) (eC (.int 2))) (aNil)))) (eC (.str [47]))) (eOpN nStr (aCons (eOp2S pIdxS (eVar 0) (eC (.int 3))) (aNil)))))) (sNil)) (sSeq (sIf (tVal (eOp2 pEq (eVar 1) (eC (.str [102, 114, 97, 109, 101])))) (sRet (fVal (eOp2 pAdd (eOp2 pAdd (eVar 2) (eC (.str [126]))) (eOpN nStr (aCons (eOp2S pIdxS (eVar 0) (eC (.int 2))) (aNil)))))) (sNil)) (sRet (fVal (eOp2 pAdd (eOp2 pAdd (eOp2 pAdd (eVar 2) (eC (.str [33]))) (eOpN nStr (aCons (eOp2S pIdxS (eVar 0) (eC (.int 2))) (aNil)))) (eFrz (fCall call 169 (aCons (eOp2S pIdxS (eVar 0) (eC (.int 3))) (aNil)))))))))))))
def fn169 : Fn := ⟨1, 5, none, b169⟩
/-- _law_small -/
def b170 (call : CallT) : SM := sSeq (sSet 2 (fVal (eFrz (fCall call 167 (aCons (eVar 0) (aCons (eVar 1) (aNil))))))) (sSeq (sWhile (tOr (tVal (eOp2 pGt (eOp1S nLenS (eFrz (fCall call 169 (aCons (eVar 2) (aNil))))) (eC (.int 40)))) (tVal (eOp2 pGt (eFrz (fCall call 173 (aCons (eVar 2) (aNil)))) (eC (.int 120))))) (sSet 2 (fVal (eIf (tVal (eOp2 pIn (eOp2S pIdxS (eVar 2) (eC (.int 0))) (eTup (aCons (eC (.str [114, 111, 119])) (aCons (eC (.str [115, 116, 97, 99, 107])) (aCons (eC (.str [116, 117, 114, 110, 115])) (aNil))))))) (eOp2S pIdxS (eOp2S pIdxS (eVar 2) (eC (.int 1))) (eC (.int 0))) (eOp2S pIdxS (eVar 2) (eC (.int 1))))))) (sRet (fVal (eVar 2))))
def fn170 : Fn := ⟨2, 3, none, b170⟩
/-- _law_size -/
def b171 (call : CallT) : SM := sSeq (sSet 1 (fVal (eOp2S pIdxS (eVar 0) (eC (.int 0))))) (sSeq (sIf (tVal (eOp2 pEq (eVar 1) (eC (.str [111, 110, 101])))) (sRet (fVal (eTup (aCons (eC (.int 1)) (aCons (eC (.int 1)) (aNil)))))) (sNil)) (sSeq (sIf (tVal (eOp2 pEq (eVar 1) (eC (.str [102, 114, 97, 109, 101])))) (sRet (fVal (eTup (aCons (eOp2S pIdxS (eVar 0) (eC (.int 2))) (aCons (eC (.int 1)) (aNil)))))) (sNil)) (sSeq (sIf (tVal (eOp2 pEq (eVar 1) (eC (.str [113, 117, 105, 99, 107])))) (sRet (fCall call 163 (aCons (eFrz (fCall call 171 (aCons (eOp2S pIdxS (eVar 0) (eC (.int 1))) (aNil)))) (aCons (eFrz (fCall call 161 (aCons (eOp2S pIdxS (eVar 0) (eC (.int 3))) (aCons (eOp2S pIdxS (eVar 0) (eC (.int 2))) (aNil))))) (aNil))))) (sNil)) (sSeq (sIf (tVal (eOp2 pEq (eVar 1) (eC (.str [108, 97, 116, 101])))) (sRet (fCall call 171 (aCons (eOp2S pIdxS (eVar 0) (eC (.int 1))) (aNil)))) (sNil)) (sSeq (sSet 2 (fVal (eFrz (fLc (wItems (eFrz (fIf (tVal (eOp2 pNe (eVar 1) (eC (.str [101, 97, 99, 104])))) (fVal (eOp2S pIdxS (eVar 0) (eC (.int 1)))) (fLst (aCons (eOp2S pIdxS (eVar 0) (eC (.int 1))) (aCons (eOp2S pIdxS (eVar 0) (eC (.int 3))) (aNil))))))) [5] (gName 5) (tYes) (eFrz (fCall call 171 (aCons (eVar 5) (aNil)))))))) (sSeq (sSet 3 (fVal (eOp2S pIdxS (eVar 2) (eC (.int 0))))) (sSeq (sFor (wItems (eCutS (eVar 2) (oSome (eC (.int 1))) (oNone))) (gName 4) (sIf (tVal (eOp2 pEq (eVar 1) (eC (.str [114, 111, 119])))) (sSet 3 (fVal (eFrz (fCall call 162 (aCons (eVar 3) (aCons (eVar 4) (aNil))))))) (sIf (tVal (eOp2 pEq (eVar 1) (eC (.str [115, 116, 97, 99, 107])))) (sSeq (sSet 6 (fVal (eFrz (fCall call 165 (aCons (eOp2S pIdxS (eVar 3) (eC (.int 1))) (aCons (eOp2S pIdxS (eVar 4) (eC (.int 1))) (aNil))))))) (sSeq (sSet 7 (fVal (eOp2 pMul (eOp2S pIdxS (eVar 3) (eC (.int 0))) (eOp2 pDiv (eVar 6) (eOp2S pIdxS (eVar 3) (eC (.int 1))))))) (sSeq (sSet 8 (fVal (eOp2 pMul (eOp2S pIdxS (eVar 4) (eC (.int 0))) (eOp2 pDiv (eVar 6) (eOp2S pIdxS (eVar 4) (eC (.int 1))))))) (sSet 3 (fVal (eFrz (fCall call 161 (aCons (eFrz (fCall call 165 (aCons (eVar 7) (aCons (eVar 8) (aNil))))) (aCons (eVar 6) (aNil)))))))))) (sIf (tVal (eFrz (fCall call 164 (aCons (eVar 3) (aCons (eVar 4) (aNil)))))) (sSet 3 (fVal (eVar 4))) (sNil))))) (sRet (fVal (eVar 3))))))))))
def fn171 : Fn := ⟨1, 9, none, b171⟩
/-- _law_round -/
def b172 (call : CallT) : SM := sSeq (sSet 1 (fVal (eOp2S pIdxS (eVar 0) (eC (.int 0))))) (sSeq (sIf (tVal (eOp2 pIn (eVar 1) (eTup (aCons (eC (.str [111, 110, 101])) (aCons (eC (.str [102, 114, 97, 109, 101])) (aNil)))))) (sRet (fVal (eC (.int 1)))) (sNil)) (sSeq (sIf (tVal (eOp2 pIn (eVar 1) (eTup (aCons (eC (.str [113, 117, 105, 99, 107])) (aCons (eC (.str [108, 97, 116, 101])) (aNil)))))) (sRet (fCall call 172 (aCons (eOp2S pIdxS (eVar 0) (eC (.int 1))) (aNil)))) (sNil)) (sSeq (sSet 2 (fVal (eC (.int 1)))) (sSeq (sFor (wItems (eFrz (fIf (tVal (eOp2 pNe (eVar 1) (eC (.str [101, 97, 99, 104])))) (fVal (eOp2S pIdxS (eVar 0) (eC (.int 1)))) (fLst (aCons (eOp2S pIdxS (eVar 0) (eC (.int 1))) (aCons (eOp2S pIdxS (eVar 0) (eC (.int 3))) (aNil))))))) (gName 3) (sSet 2 (fVal (eFrz (fCall call 165 (aCons (eVar 2) (aCons (eFrz (fCall call 172 (aCons (eVar 3) (aNil)))) (aNil)))))))) (sSeq (sIf (tVal (eOp2 pEq (eVar 1) (eC (.str [116, 117, 114, 110, 115])))) (sRet (fVal (eOp2 pMul (eVar 2) (eOp1S nLenS (eOp2S pIdxS (eVar 0) (eC (.int 1))))))) (sNil)) (sRet (fVal (eIf (tVal (eOp2 pEq (eVar 1) (eC (.str [101, 97, 99, 104])))) (eOp2 pMul (eVar 2) (eOp2S pIdxS (eVar 0) (eC (.int 2)))) (eVar 2)))))))))
def fn172 : Fn := ⟨1, 4, none, b172⟩
/-- _law_heavy -/
def b173 (call : CallT) : SM := sSeq (sSet 1 (fVal (eOp2S pIdxS (eVar 0) (eC (.int 0))))) (sSeq (sIf (tVal (eOp2 pEq (eVar 1) (eC (.str [111, 110, 101])))) (sRet (fVal (eC (.int 1)))) (sNil)) (sSeq (sSet 2 (fVal (eFrz (fLc (wItems (eFrz (fIf (tVal (eOp2 pIn (eVar 1) (eTup (aCons (eC (.str [114, 111, 119])) (aCons (eC (.str [115, 116, 97, 99, 107])) (aCons (eC (.str [116, 117, 114, 110, 115])) (aNil))))))) (fVal (eOp2S pIdxS (eVar 0) (eC (.int 1)))) (fLst (aCons (eOp2S pIdxS (eVar 0) (eC (.int 1))) (aNil)))))) [6] (gName 6) (tYes) (eFrz (fCall call 173 (aCons (eVar 6) (aNil)))))))) (sSeq (sSet 3 (fVal (eOp2 pMul (eOpN nSum (aCons (eVar 2) (aNil))) (eFrz (fCall call 172 (aCons (eVar 0) (aNil))))))) (sSeq (sIf (tVal (eOp2 pEq (eVar 1) (eC (.str [101, 97, 99, 104])))) (sSet 3 (fVal (eOp2 pAdd (eVar 3) (eOp2 pMul (eFrz (fCall call 173 (aCons (eOp2S pIdxS (eVar 0) (eC (.int 3))) (aNil)))) (eFrz (fCall call 172 (aCons (eVar 0) (aNil)))))))) (sNil)) (sSeq (sIf (tVal (eOp2 pIn (eVar 1) (eTup (aCons (eC (.str [115, 116, 97, 99, 107])) (aCons (eC (.str [102, 114, 97, 109, 101])) (aNil)))))) (sSeq (sSet 4 (fVal (eFrz (fLc (wItems (eFrz (fIf (tVal (eOp2 pEq (eVar 1) (eC (.str [115, 116, 97, 99, 107])))) (fVal (eOp2S pIdxS (eVar 0) (eC (.int 1)))) (fLst (aCons (eOp2S pIdxS (eVar 0) (eC (.int 1))) (aNil)))))) [6] (gName 6) (tYes) (eFrz (fCall call 171 (aCons (eVar 6) (aNil)))))))) (sFor (wItems (eVar 4)) (gName 5) (sSeq (sSet 7 (fVal (eFrz (fCall call 163 (aCons (eFrz (fCall call 171 (aCons (eVar 0) (aNil)))) (aCons (eTup (aCons (eOp2S pIdxS (eVar 5) (eC (.int 1))) (aCons (eOp2S pIdxS (eVar 5) (eC (.int 0))) (aNil)))) (aNil))))))) (sSet 3 (fVal (eOp2 pAdd (eVar 3) (eOp2 pMul (eVar 3) (eOp2 pDiv (eOp2S pIdxS (eVar 7) (eC (.int 0))) (eOp2S pIdxS (eVar 7) (eC (.int 1))))))))))) (sNil)) (sRet (fVal (eVar 3))))))))
def fn173 : Fn := ⟨1, 8, none, b173⟩
/-- _law_later -/
def b174 (call : CallT) : SM := sRet (fLc (wItems (eVar 0)) [2, 3] (gTup [gName 2, gName 3]) (tYes) (eTup (aCons (eFrz (fCall call 162 (aCons (eVar 2) (aCons (eVar 1) (aNil))))) (aCons (eVar 3) (aNil)))))
def fn174 : Fn := ⟨2, 4, none, b174⟩
/-- _law_many -/
def b175 (call : CallT) : SM := sSeq (sSet 3 (fVal (eFrz (fLst (aNil))))) (sSeq (sFor (wRng1 (eVar 2)) (gName 4) (sSet 3 (fVal (eOp2 pAdd (eVar 3) (eFrz (fCall call 174 (aCons (eFrz (fCall call 178 (aCons (eVar 0) (aCons (eOp2 pAdd (eVar 1) (eVar 4)) (aNil))))) (aCons (eFrz (fCall call 163 (aCons (eFrz (fCall call 171 (aCons (eVar 0) (aNil)))) (aCons (eTup (aCons (eVar 4) (aCons (eC (.int 1)) (aNil)))) (aNil))))) (aNil))))))))) (sRet (fVal (eVar 3))))
def fn175 : Fn := ⟨3, 5, none, b175⟩
/-- _law_grouped -/
def b176 (call : CallT) : SM := sSeq (sPar3 3 4 5 (fVal (eFrz (fLst (aNil)))) (fVal (eTup (aCons (eC (.int 0)) (aCons (eC (.int 1)) (aNil))))) (fVal (eFrz (fCall call 171 (aCons (eVar 0) (aNil)))))) (sSeq (sFor (wItems (eOp2S pIdxS (eVar 0) (eC (.int 1)))) (gName 2) (sSeq (sSet 6 (fVal (eFrz (fCall call 171 (aCons (eVar 2) (aNil)))))) (sIf (tVal (eOp2 pEq (eOp2S pIdxS (eVar 0) (eC (.int 0))) (eC (.str [114, 111, 119])))) (sSeq (sSet 3 (fVal (eOp2 pAdd (eVar 3) (eFrz (fCall call 174 (aCons (eFrz (fCall call 178 (aCons (eVar 2) (aCons (eVar 1) (aNil))))) (aCons (eVar 4) (aNil)))))))) (sSet 4 (fVal (eFrz (fCall call 162 (aCons (eVar 4) (aCons (eVar 6) (aNil)))))))) (sSeq (sSet 7 (fVal (eOp2S pIdxS (eFrz (fCall call 163 (aCons (eVar 5) (aCons (eTup (aCons (eOp2S pIdxS (eVar 6) (eC (.int 1))) (aCons (eOp2S pIdxS (eVar 6) (eC (.int 0))) (aNil)))) (aNil))))) (eC (.int 0))))) (sSet 3 (fVal (eOp2 pAdd (eVar 3) (eFrz (fCall call 175 (aCons (eVar 2) (aCons (eOp2 pMul (eVar 1) (eVar 7)) (aCons (eVar 7) (aNil))))))))))))) (sRet (fVal (eVar 3))))
def fn176 : Fn := ⟨2, 8, none, b176⟩
/-- _law_shaped -/
def b177 (call : CallT) : SM := sSeq (sPar 2 3 (fVal (eFrz (fCall call 171 (aCons (eVar 0) (aNil))))) (fLst (aNil))) (sSeq (sIf (tVal (eOp2 pEq (eOp2S pIdxS (eVar 0) (eC (.int 0))) (eC (.str [113, 117, 105, 99, 107])))) (sSeq (sSet 4 (fVal (eFrz (fCall call 161 (aCons (eOp2S pIdxS (eVar 0) (eC (.int 3))) (aCons (eOp2S pIdxS (eVar 0) (eC (.int 2))) (aNil))))))) (sRet (fLc (wItems (eFrz (fCall call 178 (aCons (eOp2S pIdxS (eVar 0) (eC (.int 1))) (aCons (eVar 1) (aNil)))))) [9, 10] (gTup [gName 9, gName 10]) (tYes) (eTup (aCons (eFrz (fCall call 163 (aCons (eVar 9) (aCons (eVar 4) (aNil))))) (aCons (eVar 10) (aNil))))))) (sNil)) (sSeq (sIf (tVal (eOp2 pEq (eOp2S pIdxS (eVar 0) (eC (.int 0))) (eC (.str [108, 97, 116, 101])))) (sSeq (sSet 5 (fVal (eFrz (fCall call 163 (aCons (eVar 2) (aCons (eFrz (fCall call 161 (aCons (eOp2S pIdxS (eVar 0) (eC (.int 2))) (aCons (eOp2S pIdxS (eVar 0) (eC (.int 3))) (aNil))))) (aNil))))))) (sSeq (sFor (wItems (eFrz (fCall call 174 (aCons (eFrz (fCall call 178 (aCons (eOp2S pIdxS (eVar 0) (eC (.int 1))) (aCons (eVar 1) (aNil))))) (aCons (eVar 5) (aNil)))))) (gTup [gName 9, gName 10]) (sSeq (sIf (tNot (tVal (eFrz (fCall call 164 (aCons (eVar 9) (aCons (eVar 2) (aNil))))))) (sSet 9 (fVal (eFrz (fCall call 162 (aCons (eVar 9) (aCons (eTup (aCons (eOp2 pSub (eC (.int 0)) (eOp2S pIdxS (eVar 2) (eC (.int 0)))) (aCons (eOp2S pIdxS (eVar 2) (eC (.int 1))) (aNil)))) (aNil))))))) (sNil)) (sApp 3 (eTup (aCons (eVar 9) (aCons (eVar 10) (aNil))))))) (sRetV 3))) (sNil)) (sSeq (sPar 6 7 (fVal (eFrz (fCall call 171 (aCons (eOp2S pIdxS (eVar 0) (eC (.int 1))) (aNil))))) (fVal (eC (.int 0)))) (sSeq (sWhile (tVal (eFrz (fCall call 164 (aCons (eFrz (fCall call 163 (aCons (eVar 6) (aCons (eTup (aCons (eVar 7) (aCons (eC (.int 1)) (aNil)))) (aNil))))) (aCons (eVar 2) (aNil)))))) (sSeq (sSet 8 (fVal (eFrz (fCall call 174 (aCons (eFrz (fCall call 178 (aCons (eOp2S pIdxS (eVar 0) (eC (.int 1))) (aCons (eVar 7) (aNil))))) (aCons (eFrz (fCall call 163 (aCons (eVar 6) (aCons (eTup (aCons (eVar 7) (aCons (eC (.int 1)) (aNil)))) (aNil))))) (aNil))))))) (sSeq (sFrz 3) (sSeq (sSet 3 (fVal (eOp2 pAdd (eVar 3) (eFrz (fLc (wItems (eVar 8)) [11] (gName 11) (tVal (eFrz (fCall call 164 (aCons (eOp2S pIdxS (eVar 11) (eC (.int 0))) (aCons (eVar 2) (aNil)))))) (eVar 11)))))) (sSet 7 (fVal (eOp2 pAdd (eVar 7) (eC (.int 1))))))))) (sRet (fVal (eVar 3)))))))
def fn177 : Fn := ⟨2, 12, none, b177⟩
/-- _law_turn -/
def b178 (call : CallT) : SM := sSeq (sSet 2 (fVal (eOp2S pIdxS (eVar 0) (eC (.int 0))))) (sSeq (sIf (tVal (eOp2 pEq (eVar 2) (eC (.str [111, 110, 101])))) (sRet (fIf (tVal (eOp2 pNe (eOp2S pIdxS (eVar 0) (eC (.int 1))) (eC (.str [45])))) (fLst (aCons (eTup (aCons (eTup (aCons (eC (.int 0)) (aCons (eC (.int 1)) (aNil)))) (aCons (eOp2S pIdxS (eVar 0) (eC (.int 1))) (aNil)))) (aNil))) (fLst (aNil)))) (sNil)) (sSeq (sIf (tVal (eOp2 pEq (eVar 2) (eC (.str [116, 117, 114, 110, 115])))) (sRet (fCall call 178 (aCons (eOp2S pIdxS (eOp2S pIdxS (eVar 0) (eC (.int 1))) (eOp2 pMod (eVar 1) (eOp1S nLenS (eOp2S pIdxS (eVar 0) (eC (.int 1)))))) (aCons (eOp2 pDiv (eVar 1) (eOp1S nLenS (eOp2S pIdxS (eVar 0) (eC (.int 1))))) (aNil))))) (sNil)) (sSeq (sIf (tVal (eOp2 pEq (eVar 2) (eC (.str [101, 97, 99, 104])))) (sSeq (sIf (tVal (eOp2 pEq (eOp2 pMod (eOp2 pAdd (eVar 1) (eC (.int 1))) (eOp2S pIdxS (eVar 0) (eC (.int 2)))) (eC (.int 0)))) (sRet (fCall call 178 (aCons (eOp2S pIdxS (eVar 0) (eC (.int 3))) (aCons (eOp2 pDiv (eVar 1) (eOp2S pIdxS (eVar 0) (eC (.int 2)))) (aNil))))) (sNil)) (sRet (fCall call 178 (aCons (eOp2S pIdxS (eVar 0) (eC (.int 1))) (aCons (eOp2 pSub (eVar 1) (eOp2 pDiv (eVar 1) (eOp2S pIdxS (eVar 0) (eC (.int 2))))) (aNil)))))) (sNil)) (sRet (fIf (tVal (eOp2 pIn (eVar 2) (eTup (aCons (eC (.str [114, 111, 119])) (aCons (eC (.str [115, 116, 97, 99, 107])) (aNil)))))) (fCall call 176 (aCons (eVar 0) (aCons (eVar 1) (aNil)))) (fCall call 177 (aCons (eVar 0) (aCons (eVar 1) (aNil)))))))))
def fn178 : Fn := ⟨2, 3, none, b178⟩
/-- _law_least -/
def b179 (call : CallT) : SM := sSeq (sIf (tVal (eOp2 pEq (eOp1S nLenS (eVar 1)) (eC (.int 0)))) (sRet (fVal (eTup (aCons (eTup (aCons (eC (.int 1)) (aCons (eC (.int 1)) (aNil)))) (aCons (eTup (aNil)) (aNil)))))) (sNil)) (sSeq (sSet 2 (fVal (eTup (aCons (eVar 0) (aCons (eOpN nTuple (aCons (eVar 1) (aNil))) (aNil)))))) (sSeq (sSet 3 (fVal (eOpN nDict (aCons (eVar 1) (aNil))))) (sSeq (sFor (wRng2 (eC (.int 2)) (eOp2 pAdd (eOp1S nLenS (eVar 1)) (eC (.int 1)))) (gName 4) (sSeq (sSet 5 (fVal (eFrz (fCall call 163 (aCons (eVar 0) (aCons (eTup (aCons (eC (.int 1)) (aCons (eVar 4) (aNil)))) (aNil))))))) (sSeq (sSet 6 (fVal (eC (.bl true)))) (sSeq (sFor (wItems (eVar 1)) (gTup [gName 7, gName 8]) (sSeq (sSet 9 (fVal (eFrz (fCall call 162 (aCons (eVar 7) (aCons (eVar 5) (aNil))))))) (sSeq (sIf (tNot (tVal (eFrz (fCall call 164 (aCons (eVar 9) (aCons (eVar 0) (aNil))))))) (sSet 9 (fVal (eFrz (fCall call 162 (aCons (eVar 9) (aCons (eTup (aCons (eOp2 pSub (eC (.int 0)) (eOp2S pIdxS (eVar 0) (eC (.int 0)))) (aCons (eOp2S pIdxS (eVar 0) (eC (.int 1))) (aNil)))) (aNil))))))) (sNil)) (sSet 6 (fVal (eAnd (eVar 6) (eOp2 pEq (eDGet (eVar 3) (eVar 9) (eC (.str []))) (eVar 8)))))))) (sIf (tVal (eVar 6)) (sSet 2 (fVal (eTup (aCons (eVar 5) (aCons (eOpN nTuple (aCons (eFrz (fLc (wItems (eVar 1)) [10] (gName 10) (tVal (eFrz (fCall call 164 (aCons (eOp2S pIdxS (eVar 10) (eC (.int 0))) (aCons (eVar 5) (aNil)))))) (eVar 10))) (aNil))) (aNil)))))) (sNil)))))) (sRet (fVal (eVar 2))))))
def fn179 : Fn := ⟨2, 11, none, b179⟩
/-- _law_between -/
def b180 (call : CallT) : SM := sSeq (sSet 3 (fLst (aNil))) (sSeq (sSet 4 (fVal (eOp2S pIdxS (eVar 0) (eC (.int 0))))) (sSeq (sSet 5 (fVal (eFrz (fCall call 163 (aCons (eVar 1) (aCons (eTup (aCons (eOp2S pIdxS (eVar 4) (eC (.int 1))) (aCons (eOp2S pIdxS (eVar 4) (eC (.int 0))) (aNil)))) (aNil))))))) (sSeq (sSet 6 (fVal (eOp2 pDiv (eOp2S pIdxS (eVar 5) (eC (.int 0))) (eOp2S pIdxS (eVar 5) (eC (.int 1)))))) (sSeq (sWhile (tVal (eFrz (fCall call 164 (aCons (eFrz (fCall call 163 (aCons (eVar 4) (aCons (eTup (aCons (eVar 6) (aCons (eC (.int 1)) (aNil)))) (aNil))))) (aCons (eVar 2) (aNil)))))) (sSeq (sFor (wItems (eOp2S pIdxS (eVar 0) (eC (.int 1)))) (gTup [gName 7, gName 8]) (sSeq (sSet 9 (fVal (eFrz (fCall call 162 (aCons (eFrz (fCall call 163 (aCons (eVar 4) (aCons (eTup (aCons (eVar 6) (aCons (eC (.int 1)) (aNil)))) (aNil))))) (aCons (eVar 7) (aNil))))))) (sIf (tAnd (tNot (tVal (eFrz (fCall call 164 (aCons (eVar 9) (aCons (eVar 1) (aNil))))))) (tVal (eFrz (fCall call 164 (aCons (eVar 9) (aCons (eVar 2) (aNil))))))) (sApp 3 (eTup (aCons (eVar 9) (aCons (eVar 8) (aNil))))) (sNil)))) (sSet 6 (fVal (eOp2 pAdd (eVar 6) (eC (.int 1))))))) (sRetV 3)))))
def fn180 : Fn := ⟨3, 10, none, b180⟩
/-- _law_sound -/
def b181 (call : CallT) : SM := sSeq (sSet 2 (fVal (eOp2S pIdxS (eVar 0) (eC (.int 0))))) (sSeq (sSet 3 (fVal (eFrz (fCall call 163 (aCons (eVar 1) (aCons (eTup (aCons (eOp2S pIdxS (eVar 2) (eC (.int 1))) (aCons (eOp2S pIdxS (eVar 2) (eC (.int 0))) (aNil)))) (aNil))))))) (sSeq (sSet 4 (fVal (eFrz (fCall call 163 (aCons (eVar 2) (aCons (eTup (aCons (eOp2 pDiv (eOp2S pIdxS (eVar 3) (eC (.int 0))) (eOp2S pIdxS (eVar 3) (eC (.int 1)))) (aCons (eC (.int 1)) (aNil)))) (aNil))))))) (sRet (fVal (eDGet (eOpN nDict (aCons (eFrz (fList (eOp2S pIdxS (eVar 0) (eC (.int 1))))) (aNil))) (eFrz (fCall call 162 (aCons (eVar 1) (aCons (eTup (aCons (eOp2 pSub (eC (.int 0)) (eOp2S pIdxS (eVar 4) (eC (.int 0)))) (aCons (eOp2S pIdxS (eVar 4) (eC (.int 1))) (aNil)))) (aNil))))) (eC (.str [])))))))
def fn181 : Fn := ⟨2, 5, none, b181⟩
/-- _law_machine -/
def b182 (call : CallT) : SM := sSeq (sSet 1 (fVal (eFrz (fCall call 172 (aCons (eVar 0) (aNil)))))) (sRet (fCall call 179 (aCons (eFrz (fCall call 163 (aCons (eFrz (fCall call 171 (aCons (eVar 0) (aNil)))) (aCons (eTup (aCons (eVar 1) (aCons (eC (.int 1)) (aNil)))) (aNil))))) (aCons (eFrz (fCall call 166 (aCons (eFrz (fCall call 175 (aCons (eVar 0) (aCons (eC (.int 0)) (aCons (eVar 1) (aNil)))))) (aNil)))) (aNil)))))
def fn182 : Fn := ⟨1, 2, none, b182⟩
/-- _law_taken -/
def b183 (call : CallT) : SM := sSeq (sIf (tVal (eOp2 pGt (eOp2S pIdxS (eVar 0) (eC (.int 3))) (eC (.int 0)))) (sSeq (sSet 3 (fVal (eOp2 pMod (eOpN nInt (aCons (eOp2S pIdxS (eVar 0) (eC (.int 3))) (aNil))) (eVar 1)))) (sSeq (sSetIxL (eVar 0) (eOp2 pDiv (eOp2S pIdxS (eVar 0) (eC (.int 3))) (eVar 1)) (eC (.int 3))) (sRet (fVal (eVar 3))))) (sNil)) (sSeq (sSetIxL (eVar 0) (eOp2 pAdd (eOp2S pIdxS (eVar 0) (eC (.int 1))) (eC (.int 1))) (eC (.int 1))) (sSeq (sIf (tVal (eOp2 pGt (eOp2S pIdxS (eVar 0) (eC (.int 1))) (eOp1S nLenS (eOp2S pIdxS (eVar 0) (eC (.int 0)))))) (sSeq (sSetIxL (eVar 0) (eOp2 pMod (eOpN nInt (aCons (eOp2 pAdd (eOp2 pMul (eOp2S pIdxS (eVar 0) (eC (.int 2))) (eC (.int 48271))) (eC (.int 11))) (aNil))) (eC (.int 2147483647))) (eC (.int 2))) (sRet (fVal (eOp2 pMod (eOpN nInt (aCons (eOp2 pDiv (eOp2S pIdxS (eVar 0) (eC (.int 2))) (eC (.int 7))) (aNil))) (eVar 1))))) (sNil)) (sSeq (sSet 2 (fVal (eOp2S pIdxS (eOp2S pIdxS (eVar 0) (eC (.int 0))) (eOp2 pSub (eOp2S pIdxS (eVar 0) (eC (.int 1))) (eC (.int 1)))))) (sSeq (sSetIxL (eVar 0) (eOp2 pMod (eOpN nInt (aCons (eOp2 pAdd (eOp2 pAdd (eOp2 pMul (eOp2S pIdxS (eVar 0) (eC (.int 2))) (eC (.int 48271))) (eVar 2)) (eC (.int 11))) (aNil))) (eC (.int 2147483647))) (eC (.int 2))) (sSeq (sIf (tVal (eOp2 pGe (eVar 2) (eOp2 pPow (eC (.int 10)) (eC (.int 18))))) (sSetIxL (eVar 0) (eOp2 pDiv (eVar 2) (eVar 1)) (eC (.int 3))) (sNil)) (sRet (fVal (eOp2 pMod (eOpN nInt (aCons (eVar 2) (aNil))) (eVar 1)))))))))
def fn183 : Fn := ⟨2, 4, none, b183⟩
/-- _law_rhythm -/
def b184 (call : CallT) : SM := sSeq (sSet 1 (fVal (eOp2 pAdd (eC (.int 1)) (eFrz (fCall call 183 (aCons (eVar 0) (aCons (eC (.int 4)) (aNil)))))))) (sSeq (sSet 2 (fVal (eOp2 pAdd (eC (.int 1)) (eFrz (fCall call 183 (aCons (eVar 0) (aCons (eC (.int 8)) (aNil)))))))) (sSeq (sSet 3 (fLst (aNil))) (sSeq (sFor (wRng1 (eVar 2)) (gName 4) (sIf (tVal (eOp2 pEq (eFrz (fCall call 183 (aCons (eVar 0) (aCons (eC (.int 2)) (aNil))))) (eC (.int 0)))) (sSeq (sSet 5 (fVal (eOp2S pIdxS (eFrz (fLst (aCons (eC (.str [97])) (aCons (eC (.str [98])) (aCons (eC (.str [97, 98])) (aCons (eC (.str [99])) (aCons (eC (.str [97])) (aCons (eC (.str [97, 100])) (aNil))))))))) (eFrz (fCall call 183 (aCons (eVar 0) (aCons (eC (.int 6)) (aNil)))))))) (sApp 3 (eTup (aCons (eFrz (fCall call 161 (aCons (eVar 4) (aCons (eVar 1) (aNil))))) (aCons (eVar 5) (aNil)))))) (sNil))) (sRet (fLst (aCons (eFrz (fCall call 161 (aCons (eVar 2) (aCons (eVar 1) (aNil))))) (aCons (eTupOwn 3) (aNil))))))))
def fn184 : Fn := ⟨1, 6, none, b184⟩
/-- _law_least -/
def b185 (call : CallT) : SM := sSeq (sIf (tVal (eOp2 pEq (eOp1S nLenS (eVar 1)) (eC (.int 0)))) (sRet (fVal (eTup (aCons (eTup (aCons (eC (.int 1)) (aCons (eC (.int 1)) (aNil)))) (aCons (eTup (aNil)) (aNil)))))) (sNil)) (sSeq (sSet 2 (fVal (eTup (aCons (eVar 0) (aCons (eOpN nTuple (aCons (eVar 1) (aNil))) (aNil)))))) (sSeq (sSet 3 (fVal (eOpN nDict (aCons (eVar 1) (aNil))))) (sSeq (sFor (wRng2 (eC (.int 2)) (eOp2 pAdd (eOp1S nLenS (eVar 1)) (eC (.int 1)))) (gName 4) (sSeq (sSet 5 (fVal (eFrz (fCall call 163 (aCons (eVar 0) (aCons (eTup (aCons (eC (.int 1)) (aCons (eVar 4) (aNil)))) (aNil))))))) (sSeq (sSet 6 (fVal (eC (.bl true)))) (sSeq (sFor (wItems (eVar 1)) (gTup [gName 7, gName 8]) (sSeq (sSet 9 (fVal (eFrz (fCall call 162 (aCons (eVar 7) (aCons (eVar 5) (aNil))))))) (sSeq (sIf (tNot (tVal (eFrz (fCall call 164 (aCons (eVar 9) (aCons (eVar 0) (aNil))))))) (sSet 9 (fVal (eFrz (fCall call 162 (aCons (eVar 9) (aCons (eTup (aCons (eOp2 pSub (eC (.int 0)) (eOp2S pIdxS (eVar 0) (eC (.int 0)))) (aCons (eOp2S pIdxS (eVar 0) (eC (.int 1))) (aNil)))) (aNil))))))) (sNil)) (sSet 6 (fVal (eAnd (eVar 6) (eOp2 pEq (eDGet (eVar 3) (eVar 9) (eC (.str []))) (eVar 8)))))))) (sIf (tVal (eVar 6)) (sSet 2 (fVal (eTup (aCons (eVar 5) (aCons (eOpN nTuple (aCons (eFrz (fLc (wItems (eVar 1)) [10] (gName 10) (tVal (eFrz (fCall call 164 (aCons (eOp2S pIdxS (eVar 10) (eC (.int 0))) (aCons (eVar 5) (aNil)))))) (eVar 10))) (aNil))) (aNil)))))) (sNil)))))) (sRet (fVal (eVar 2))))))
def fn185 : Fn := ⟨2, 11, none, b185⟩
/-- _law_between -/
def b186 (call : CallT) : SM := sSeq (sSet 3 (fLst (aNil))) (sSeq (sSet 4 (fVal (eOp2S pIdxS (eVar 0) (eC (.int 0))))) (sSeq (sSet 5 (fVal (eFrz (fCall call 163 (aCons (eVar 1) (aCons (eTup (aCons (eOp2S pIdxS (eVar 4) (eC (.int 1))) (aCons (eOp2S pIdxS (eVar 4) (eC (.int 0))) (aNil)))) (aNil))))))) (sSeq (sSet 6 (fVal (eOp2 pDiv (eOp2S pIdxS (eVar 5) (eC (.int 0))) (eOp2S pIdxS (eVar 5) (eC (.int 1)))))) (sSeq (sWhile (tVal (eFrz (fCall call 164 (aCons (eFrz (fCall call 163 (aCons (eVar 4) (aCons (eTup (aCons (eVar 6) (aCons (eC (.int 1)) (aNil)))) (aNil))))) (aCons (eVar 2) (aNil)))))) (sSeq (sFor (wItems (eOp2S pIdxS (eVar 0) (eC (.int 1)))) (gTup [gName 7, gName 8]) (sSeq (sSet 9 (fVal (eFrz (fCall call 162 (aCons (eFrz (fCall call 163 (aCons (eVar 4) (aCons (eTup (aCons (eVar 6) (aCons (eC (.int 1)) (aNil)))) (aNil))))) (aCons (eVar 7) (aNil))))))) (sIf (tAnd (tNot (tVal (eFrz (fCall call 164 (aCons (eVar 9) (aCons (eVar 1) (aNil))))))) (tVal (eFrz (fCall call 164 (aCons (eVar 9) (aCons (eVar 2) (aNil))))))) (sApp 3 (eTup (aCons (eVar 9) (aCons (eVar 8) (aNil))))) (sNil)))) (sSet 6 (fVal (eOp2 pAdd (eVar 6) (eC (.int 1))))))) (sRetV 3)))))
def fn186 : Fn := ⟨3, 10, none, b186⟩
/-- _law_sound -/
def b187 (call : CallT) : SM := sSeq (sSet 2 (fVal (eOp2S pIdxS (eVar 0) (eC (.int 0))))) (sSeq (sSet 3 (fVal (eFrz (fCall call 163 (aCons (eVar 1) (aCons (eTup (aCons (eOp2S pIdxS (eVar 2) (eC (.int 1))) (aCons (eOp2S pIdxS (eVar 2) (eC (.int 0))) (aNil)))) (aNil))))))) (sSeq (sSet 4 (fVal (eFrz (fCall call 163 (aCons (eVar 2) (aCons (eTup (aCons (eOp2 pDiv (eOp2S pIdxS (eVar 3) (eC (.int 0))) (eOp2S pIdxS (eVar 3) (eC (.int 1)))) (aCons (eC (.int 1)) (aNil)))) (aNil))))))) (sRet (fVal (eDGet (eOpN nDict (aCons (eFrz (fList (eOp2S pIdxS (eVar 0) (eC (.int 1))))) (aNil))) (eFrz (fCall call 162 (aCons (eVar 1) (aCons (eTup (aCons (eOp2 pSub (eC (.int 0)) (eOp2S pIdxS (eVar 4) (eC (.int 0)))) (aCons (eOp2S pIdxS (eVar 4) (eC (.int 1))) (aNil)))) (aNil))))) (eC (.str [])))))))
def fn187 : Fn := ⟨2, 5, none, b187⟩
/-- _law_common -/
def b188 (call : CallT) : SM := sSeq (sSet 2 (fVal (eFrz (fCall call 165 (aCons (eOp2S pIdxS (eOp2S pIdxS (eVar 0) (eC (.int 0))) (eC (.int 1))) (aCons (eOp2S pIdxS (eOp2S pIdxS (eVar 1) (eC (.int 0))) (eC (.int 1))) (aNil))))))) (sSeq (sSet 3 (fVal (eOp2 pMul (eOp2S pIdxS (eOp2S pIdxS (eVar 0) (eC (.int 0))) (eC (.int 0))) (eOp2 pDiv (eVar 2) (eOp2S pIdxS (eOp2S pIdxS (eVar 0) (eC (.int 0))) (eC (.int 1))))))) (sSeq (sSet 4 (fVal (eOp2 pMul (eOp2S pIdxS (eOp2S pIdxS (eVar 1) (eC (.int 0))) (eC (.int 0))) (eOp2 pDiv (eVar 2) (eOp2S pIdxS (eOp2S pIdxS (eVar 1) (eC (.int 0))) (eC (.int 1))))))) (sRet (fCall call 161 (aCons (eFrz (fCall call 165 (aCons (eVar 3) (aCons (eVar 4) (aNil))))) (aCons (eVar 2) (aNil)))))))
def fn188 : Fn := ⟨2, 5, none, b188⟩
def ptab : List (Option Fn) := [some fn64, some fn65, some fn66, some fn67, some fn68, some fn69, some fn70, some fn71, some fn72, some fn73, some fn74, some fn75, some fn76, some fn77, some fn78, some fn79, some fn80, some fn81, some fn82, some fn83, some fn84, some fn85, some fn86, some fn87, some fn88, some fn89, some fn90, some fn91, some fn92, some fn93, some fn94, some fn95, some fn96, some fn97, some fn98, some fn99, some fn100, some fn101, some fn102, some fn103, some fn104, some fn105, some fn106, some fn107, some fn108, some fn109, some fn110, some fn111, some fn112, some fn113, some fn114, some fn115, some fn116, some fn117, some fn118, some fn119, some fn120, some fn121, some fn122, some fn123, some fn124, some fn125, some fn126, some fn127, some fn128, none, some fn130, some fn131, some fn132, some fn133, none, none, some fn136, some fn137, some fn138, some fn139, some fn140, some fn141, none, none, none, some fn145, none, some fn147, some fn148, none, none, none, some fn152, none, none, none, none, none, none, none, some fn160, some fn161, some fn162, some fn163, some fn164, some fn165, none, some fn167, some fn168, some fn169, some fn170, some fn171, some fn172, some fn173, some fn174, some fn175, some fn176, some fn177, some fn178, some fn179, some fn180, some fn181, some fn182, some fn183, some fn184, some fn185, some fn186, some fn187, some fn188]
def PT (i : Nat) : Option Fn := (ptab[i - 64]?).bind fun x => x
end BP
set_option Elab.async false
set_option linter.all false
set_option pp.deepTerms false
set_option maxRecDepth 100000
set_option maxHeartbeats 0
namespace K05
open PySem PySem.Spec PyProof.Rows L2 BR BP
open He (ga ma)
def cm (K : PySem.W.Frag) : Nat → Option Addr
  | 0 => some (ga K "Rhythm")
  | 5 => some (ga K "InvalidPeriod")
  | 6 => some (ga K "InvalidBeats")
  | _ => none
def catch_InvalidPeriod_t : Nat → Option Bool
  | 5 => some true
  | 6 => some false
  | _ => none
def catch_InvalidBeats_t : Nat → Option Bool
  | 5 => some false
  | 6 => some true
  | _ => none
/-- law -/
def b0 (call : CallT) : SM := sSeq (sSet 1 (fVal (eNewL (fLst (aCons (eVar 0) (aCons (eC (.int 0)) (aCons (eC (.int 15)) (aCons (eC (.int 0)) (aNil))))))))) (sSeq (sFor (wRng1 (eC (.int 4))) (gName 2) (sSeq (sAsg (eFrz (fCall call 184 (aCons (eVar 1) (aNil)))) (gTup [gName 7, gName 8])) (sSeq (sPar 9 10 (fVal (eFrz (fMake call 111 false (aCons (eVar 7) (aCons (eVar 8) (aNil)))))) (fVal (eFrz (fCall call 185 (aCons (eVar 7) (aCons (eVar 8) (aNil))))))) (sSeq (sIf (tOr (tVal (eOp2 pNe (eTup (aCons (eFrz (fProp call 112 0 (eVar 9))) (aCons (eFrz (fProp call 113 0 (eVar 9))) (aNil)))) (eVar 10))) (tVal (eOp2 pNe (eLenI call 115 0 (eVar 9)) (eOp1S nLenS (eOp2S pIdxS (eVar 10) (eC (.int 1))))))) (sRet (fVal (eC (.bl false)))) (sNil)) (sSeq (sSet 4 (fVal (eOp2 pAdd (eVar 8) (eOpN nTuple (aCons (eFrz (fLc (wItems (eVar 8)) [6, 11] (gTup [gName 6, gName 11]) (tYes) (eTup (aCons (eFrz (fCall call 162 (aCons (eVar 6) (aCons (eVar 7) (aNil))))) (aCons (eVar 11) (aNil)))))) (aNil)))))) (sSeq (sIf (tOr (tVal (eFrz (fOwnNe call 114 0 ["tuple"] (eFrz (fMake call 111 false (aCons (eFrz (fCall call 162 (aCons (eVar 7) (aCons (eVar 7) (aNil))))) (aCons (eVar 4) (aNil))))) (eVar 9)))) (tVal (eOp2 pNotN (eFrz (fCall call 1 (aCons (eVar 7) (aCons (eVar 8) (aNil))))) (eC .non)))) (sRet (fVal (eC (.bl false)))) (sNil)) (sSeq (sSet 5 (fVal (eFrz (fCall call 184 (aCons (eVar 1) (aNil)))))) (sSeq (sIf (tVal (eOp2 pNe (eFrz (fOwn call 114 0 ["tuple"] (eFrz (fMake call 111 false (aCons (eOp2S pIdxS (eVar 5) (eC (.int 0))) (aCons (eOp2S pIdxS (eVar 5) (eC (.int 1))) (aNil))))) (eVar 9))) (eOp2 pEq (eFrz (fCall call 185 (aCons (eOp2S pIdxS (eVar 5) (eC (.int 0))) (aCons (eOp2S pIdxS (eVar 5) (eC (.int 1))) (aNil))))) (eVar 10)))) (sRet (fVal (eC (.bl false)))) (sNil)) (sSeq (sSet 6 (fVal (eFrz (fCall call 161 (aCons (eFrz (fCall call 183 (aCons (eVar 1) (aCons (eC (.int 99)) (aNil))))) (aCons (eOp2 pAdd (eC (.int 1)) (eFrz (fCall call 183 (aCons (eVar 1) (aCons (eC (.int 6)) (aNil)))))) (aNil))))))) (sSeq (sIf (tVal (eOp2 pNe (eFrz (fMeth call 116 0 "sound" (eVar 9) (aCons (eVar 6) (aNil)))) (eFrz (fCall call 187 (aCons (eVar 10) (aCons (eVar 6) (aNil))))))) (sRet (fVal (eC (.bl false)))) (sNil)) (sIf (tVal (eOp2 pNe (eFrz (fMeth call 117 0 "between" (eVar 9) (aCons (eVar 6) (aCons (eFrz (fCall call 162 (aCons (eVar 6) (aCons (eTup (aCons (eC (.int 5)) (aCons (eC (.int 1)) (aNil)))) (aNil))))) (aNil))))) (eFrz (fCall call 186 (aCons (eVar 10) (aCons (eVar 6) (aCons (eFrz (fCall call 162 (aCons (eVar 6) (aCons (eTup (aCons (eC (.int 5)) (aCons (eC (.int 1)) (aNil)))) (aNil))))) (aNil)))))))) (sRet (fVal (eC (.bl false)))) (sNil)))))))))))) (sSeq (sSet 3 (fVal (eFrz (fLst (aCons (eC .non) (aCons (eC (.int 0)) (aCons (eTup (aCons (eC (.int 0)) (aCons (eC (.int 1)) (aNil)))) (aCons (eTup (aCons (eOp1 pNeg (eC (.int 1))) (aCons (eC (.int 2)) (aNil)))) (aCons (eTup (aCons (eC (.int 2)) (aCons (eC (.int 4)) (aNil)))) (aCons (eTup (aCons (eC (.int 1)) (aCons (eC (.int 0)) (aNil)))) (aCons (eC (.int 3)) (aCons (eC (.str [49])) (aCons (eTup (aCons (eC (.int 1)) (aCons (eC (.int 1)) (aCons (eC (.int 1)) (aNil))))) (aCons (eTup (aCons (eC (.bl true)) (aCons (eC (.int 1)) (aNil)))) (aCons (eFrz (fLst (aCons (eC (.int 1)) (aCons (eC (.int 1)) (aNil))))) (aNil)))))))))))))))) (sSeq (sIf (tVal (eOp2 pNe (eFrz (fCall call 1 (aCons (eOp2S pIdxS (eVar 3) (eFrz (fCall call 183 (aCons (eVar 1) (aCons (eOp1S nLenS (eVar 3)) (aNil)))))) (aCons (eC .non) (aNil))))) (eC (.str [112, 101, 114, 105, 111, 100])))) (sRet (fVal (eC (.bl false)))) (sNil)) (sSeq (sSet 3 (fVal (eFrz (fLst (aCons (eC .non) (aCons (eFrz (fLst (aNil))) (aCons (eTup (aCons (eC .non) (aNil))) (aCons (eTup (aCons (eTup (aCons (eTup (aCons (eC (.int 1)) (aCons (eC (.int 1)) (aNil)))) (aCons (eC (.str [97])) (aNil)))) (aNil))) (aCons (eTup (aCons (eTup (aCons (eTup (aCons (eC (.int 0)) (aCons (eC (.int 1)) (aNil)))) (aCons (eC (.str [])) (aNil)))) (aNil))) (aCons (eTup (aCons (eTup (aCons (eTup (aCons (eC (.int 0)) (aCons (eC (.int 1)) (aNil)))) (aCons (eC (.str [98, 97])) (aNil)))) (aNil))) (aCons (eTup (aCons (eTup (aCons (eTup (aCons (eC (.int 0)) (aCons (eC (.int 1)) (aNil)))) (aCons (eC (.str [97, 97])) (aNil)))) (aNil))) (aNil)))))))))))) (sSeq (sSet 3 (fVal (eOp2 pAdd (eVar 3) (eFrz (fLst (aCons (eTup (aCons (eTup (aCons (eTup (aCons (eC (.int 0)) (aCons (eC (.int 1)) (aNil)))) (aCons (eC (.str [101])) (aNil)))) (aNil))) (aNil))))))) (sSeq (sSet 3 (fVal (eOp2 pAdd (eVar 3) (eFrz (fLst (aCons (eTup (aCons (eTup (aCons (eTup (aCons (eC (.int 1)) (aCons (eC (.int 2)) (aNil)))) (aCons (eC (.str [97])) (aNil)))) (aCons (eTup (aCons (eTup (aCons (eC (.int 0)) (aCons (eC (.int 1)) (aNil)))) (aCons (eC (.str [97])) (aNil)))) (aNil)))) (aCons (eTup (aCons (eTup (aCons (eTup (aCons (eC (.int 0)) (aCons (eC (.int 1)) (aNil)))) (aCons (eC (.str [97])) (aNil)))) (aCons (eTup (aCons (eTup (aCons (eC (.int 0)) (aCons (eC (.int 1)) (aNil)))) (aCons (eC (.str [98])) (aNil)))) (aNil)))) (aCons (eTup (aCons (eTup (aCons (eTup (aCons (eOp1 pNeg (eC (.int 1))) (aCons (eC (.int 2)) (aNil)))) (aCons (eC (.str [97])) (aNil)))) (aNil))) (aCons (eTup (aCons (eTup (aCons (eTup (aCons (eC (.int 0)) (aCons (eC (.int 2)) (aNil)))) (aCons (eC (.str [97])) (aNil)))) (aNil))) (aNil)))))))))) (sSeq (sSet 3 (fVal (eOp2 pAdd (eVar 3) (eFrz (fLst (aCons (eTup (aCons (eTup (aCons (eC (.int 0)) (aCons (eC (.str [97])) (aNil)))) (aNil))) (aCons (eTup (aCons (eTup (aCons (eTup (aCons (eC (.int 0)) (aCons (eC (.int 1)) (aNil)))) (aCons (eC (.int 1)) (aNil)))) (aNil))) (aCons (eC (.str [97])) (aCons (eTup (aCons (eTup (aCons (eTup (aCons (eC (.int 0)) (aCons (eC (.int 1)) (aNil)))) (aNil))) (aNil))) (aNil)))))))))) (sRet (fVal (eAnd (eOp2 pEq (eFrz (fCall call 1 (aCons (eTup (aCons (eC (.int 1)) (aCons (eC (.int 1)) (aNil)))) (aCons (eOp2S pIdxS (eVar 3) (eFrz (fCall call 183 (aCons (eVar 1) (aCons (eOp1S nLenS (eVar 3)) (aNil)))))) (aNil))))) (eC (.str [98, 101, 97, 116, 115]))) (eFrz (fOwnNe call 114 0 ["tuple"] (eVar 9) (eVar 10)))))))))))))
/-- _law_refused -/
def b1 (call : CallT) : SM := sSeq (sSet 2 (fVal (eC .non))) (sSeq (sTry (sDrop (eFrz (fMake call 111 false (aCons (eVar 0) (aCons (eVar 1) (aNil)))))) [(catch_InvalidPeriod_t, sSet 2 (fVal (eC (.str [112, 101, 114, 105, 111, 100])))), (catch_InvalidBeats_t, sSet 2 (fVal (eC (.str [98, 101, 97, 116, 115]))))]) (sRet (fVal (eVar 2))))
def fn0 : Fn := ⟨1, 12, none, b0⟩
def fn1 : Fn := ⟨2, 3, none, b1⟩
def tab : List (Option Fn) := [some fn0, some fn1, none, none, none, none, none, none, none, none, none, none, none, none, none, none, none, none, none, none, none, none, none, none, none, none, none, none, none, none, none, none, none, none, none, none, none, none, none, none, none, none, none, none, none, none, none, none, none, none, none, none, none, none, none, none, none, none, none, none, none, none, none, none, some fn64, some fn65, none, some fn67, some fn68, some fn69, some fn70, some fn71, some fn72, some fn73, some fn74, some fn75, none, some fn77, none, none, none, none, none, none, none, none, none, none, none, none, none, none, none, none, none, none, none, none, none, none, none, none, none, none, none, some fn105, some fn106, some fn107, some fn108, some fn109, some fn110, some fn111, some fn112, some fn113, some fn114, some fn115, some fn116, some fn117, none, none, none, none, none, none, none, none, none, none, none, none, none, none, none, none, none, none, none, none, none, none, none, none, none, none, none, none, none, none, none, none, none, none, none, none, none, none, none, none, none, none, none, some fn161, some fn162, some fn163, some fn164, none, none, none, none, none, none, none, none, none, none, none, none, none, none, none, none, none, none, some fn183, some fn184, some fn185, some fn186, some fn187]
def T (i : Nat) : Option Fn := (tab[i]?).bind fun x => x
section
abbrev PR : Program := (PySem.Challenge.rw_beatrounds_k05_rhythms_made).prog
variable {w : World} {K : PySem.W.Frag} {mg : Str → Option Value} {base : Heap}
theorem sc0 : FnScope ["_law_script", "_law_row", "_law_turn", "_law_odd", "_law_again", "_law_other", "_law_time", "_law_period", "_law_beats_here", "_law_rhythm_here", "_law_due", "_law_letters"] ["_law_script"] (defScope s0) := ⟨rfl, rfl, rfl, by decide +kernel, rfl, by decide +kernel, by decide +kernel⟩
theorem sc184 : FnScope ["_law_row", "_law_parts", "_law_many", "_law_beats_here", "_law_k", "_law_letters"] ["_law_row"] (defScope s184) := ⟨rfl, rfl, rfl, by decide +kernel, rfl, by decide +kernel, by decide +kernel⟩
theorem sc111 : FnScope ["self", "period", "beats"] ["self", "period", "beats"] (defScope s111) := ⟨rfl, rfl, rfl, by decide +kernel, rfl, by decide +kernel, by decide +kernel⟩
theorem sc185 : FnScope ["_law_period", "_law_beats_here", "_law_best", "_law_known", "_law_part", "_law_size", "_law_good", "_law_time", "_law_letters", "_law_later", "_law_beat"] ["_law_period", "_law_beats_here"] (defScope s185) := ⟨rfl, rfl, rfl, by decide +kernel, rfl, by decide +kernel, by decide +kernel⟩
theorem sc112 : FnScope ["self"] ["self"] (defScope s112) := ⟨rfl, rfl, rfl, by decide +kernel, rfl, by decide +kernel, by decide +kernel⟩
theorem sc113 : FnScope ["self"] ["self"] (defScope s113) := ⟨rfl, rfl, rfl, by decide +kernel, rfl, by decide +kernel, by decide +kernel⟩
theorem sc115 : FnScope ["self"] ["self"] (defScope s115) := ⟨rfl, rfl, rfl, by decide +kernel, rfl, by decide +kernel, by decide +kernel⟩
theorem sc162 : FnScope ["_law_one", "_law_mate"] ["_law_one", "_law_mate"] (defScope s162) := ⟨rfl, rfl, rfl, by decide +kernel, rfl, by decide +kernel, by decide +kernel⟩
theorem sc114 : FnScope ["self", "other"] ["self", "other"] (defScope s114) := ⟨rfl, rfl, rfl, by decide +kernel, rfl, by decide +kernel, by decide +kernel⟩
theorem sc1 : FnScope ["_law_period", "_law_beats_here", "_law_told"] ["_law_period", "_law_beats_here"] (defScope s1) := ⟨rfl, rfl, rfl, by decide +kernel, rfl, by decide +kernel, by decide +kernel⟩
theorem sc161 : FnScope ["_law_number", "_law_parts", "_law_one", "_law_mate"] ["_law_number", "_law_parts"] (defScope s161) := ⟨rfl, rfl, rfl, by decide +kernel, rfl, by decide +kernel, by decide +kernel⟩
theorem sc183 : FnScope ["_law_row", "_law_many", "_law_cell", "_law_found"] ["_law_row", "_law_many"] (defScope s183) := ⟨rfl, rfl, rfl, by decide +kernel, rfl, by decide +kernel, by decide +kernel⟩
theorem sc116 : FnScope ["self", "time"] ["self", "time"] (defScope s116) := ⟨rfl, rfl, rfl, by decide +kernel, rfl, by decide +kernel, by decide +kernel⟩
theorem sc187 : FnScope ["_law_mech", "_law_time", "_law_size", "_law_gone", "_law_begin"] ["_law_mech", "_law_time"] (defScope s187) := ⟨rfl, rfl, rfl, by decide +kernel, rfl, by decide +kernel, by decide +kernel⟩
theorem sc117 : FnScope ["self", "start", "end", "found", "turn", "begin", "time", "letters", "here"] ["self", "start", "end"] (defScope s117) := ⟨rfl, rfl, rfl, by decide +kernel, rfl, by decide +kernel, by decide +kernel⟩
theorem sc186 : FnScope ["_law_mech", "_law_start", "_law_end", "_law_found", "_law_size", "_law_first", "_law_k", "_law_time", "_law_letters", "_law_here"] ["_law_mech", "_law_start", "_law_end"] (defScope s186) := ⟨rfl, rfl, rfl, by decide +kernel, rfl, by decide +kernel, by decide +kernel⟩
theorem sc105 : FnScope ["value"] ["value"] (defScope s105) := ⟨rfl, rfl, rfl, by decide +kernel, rfl, by decide +kernel, by decide +kernel⟩
theorem sc108 : FnScope ["value", "end", "beat", "one", "other"] ["value", "end"] (defScope s108) := ⟨rfl, rfl, rfl, by decide +kernel, rfl, by decide +kernel, by decide +kernel⟩
theorem sc110 : FnScope ["period", "beats", "many", "part", "size", "few"] ["period", "beats"] (defScope s110) := ⟨rfl, rfl, rfl, by decide +kernel, rfl, by decide +kernel, by decide +kernel⟩
theorem sc163 : FnScope ["_law_one", "_law_mate"] ["_law_one", "_law_mate"] (defScope s163) := ⟨rfl, rfl, rfl, by decide +kernel, rfl, by decide +kernel, by decide +kernel⟩
theorem sc164 : FnScope ["_law_one", "_law_mate"] ["_law_one", "_law_mate"] (defScope s164) := ⟨rfl, rfl, rfl, by decide +kernel, rfl, by decide +kernel, by decide +kernel⟩
theorem sc77 : FnScope ["one", "other"] ["one", "other"] (defScope s77) := ⟨rfl, rfl, rfl, by decide +kernel, rfl, by decide +kernel, by decide +kernel⟩
theorem sc74 : FnScope ["one"] ["one"] (defScope s74) := ⟨rfl, rfl, rfl, by decide +kernel, rfl, by decide +kernel, by decide +kernel⟩
theorem sc72 : FnScope ["one", "other"] ["one", "other"] (defScope s72) := ⟨rfl, rfl, rfl, by decide +kernel, rfl, by decide +kernel, by decide +kernel⟩
theorem sc75 : FnScope ["one"] ["one"] (defScope s75) := ⟨rfl, rfl, rfl, by decide +kernel, rfl, by decide +kernel, by decide +kernel⟩
theorem sc71 : FnScope ["one", "other"] ["one", "other"] (defScope s71) := ⟨rfl, rfl, rfl, by decide +kernel, rfl, by decide +kernel, by decide +kernel⟩
theorem sc69 : FnScope ["one", "other"] ["one", "other"] (defScope s69) := ⟨rfl, rfl, rfl, by decide +kernel, rfl, by decide +kernel, by decide +kernel⟩
theorem sc73 : FnScope ["one", "other"] ["one", "other"] (defScope s73) := ⟨rfl, rfl, rfl, by decide +kernel, rfl, by decide +kernel, by decide +kernel⟩
theorem sc68 : FnScope ["value"] ["value"] (defScope s68) := ⟨rfl, rfl, rfl, by decide +kernel, rfl, by decide +kernel, by decide +kernel⟩
theorem sc107 : FnScope ["value"] ["value"] (defScope s107) := ⟨rfl, rfl, rfl, by decide +kernel, rfl, by decide +kernel, by decide +kernel⟩
theorem sc109 : FnScope ["beats", "many", "period", "at", "later", "time", "letters"] ["beats", "many", "period"] (defScope s109) := ⟨rfl, rfl, rfl, by decide +kernel, rfl, by decide +kernel, by decide +kernel⟩
theorem sc70 : FnScope ["one", "other"] ["one", "other"] (defScope s70) := ⟨rfl, rfl, rfl, by decide +kernel, rfl, by decide +kernel, by decide +kernel⟩
theorem sc67 : FnScope ["number", "parts", "divisor"] ["number", "parts"] (defScope s67) := ⟨rfl, rfl, rfl, by decide +kernel, rfl, by decide +kernel, by decide +kernel⟩
theorem sc64 : FnScope ["value"] ["value"] (defScope s64) := ⟨rfl, rfl, rfl, by decide +kernel, rfl, by decide +kernel, by decide +kernel⟩
theorem sc65 : FnScope ["one", "other"] ["one", "other"] (defScope s65) := ⟨rfl, rfl, rfl, by decide +kernel, rfl, by decide +kernel, by decide +kernel⟩
theorem sc106 : FnScope ["value", "one", "other", "sign"] ["value"] (defScope s106) := ⟨rfl, rfl, rfl, by decide +kernel, rfl, by decide +kernel, by decide +kernel⟩
theorem f0 (F : Fx fa fb ts gs w K mg) : FunD K "law" "law" (defArgs s0) (defBody s0) (defScope s0) [] [] (ga K "law") (fdOf K (ga K "law")) := F.fn_ 0 (d := ⟨(fun K => ga K "law"), "law", "law", defArgs s0, defBody s0, defScope s0⟩) rfl
theorem f184 (F : Fx fa fb ts gs w K mg) : FunD K "_law_rhythm" "_law_rhythm" (defArgs s184) (defBody s184) (defScope s184) [] [] (ga K "_law_rhythm") (fdOf K (ga K "_law_rhythm")) := F.fn_ 1 (d := ⟨(fun K => ga K "_law_rhythm"), "_law_rhythm", "_law_rhythm", defArgs s184, defBody s184, defScope s184⟩) rfl
theorem f111 (F : Fx fa fb ts gs w K mg) : FunD K "__init__" "Rhythm.__init__" (defArgs s111) (defBody s111) (defScope s111) [] [] (ma K (ga K "Rhythm") "__init__") (fdOf K (ma K (ga K "Rhythm") "__init__")) := F.fn_ 2 (d := ⟨(fun K => ma K (ga K "Rhythm") "__init__"), "__init__", "Rhythm.__init__", defArgs s111, defBody s111, defScope s111⟩) rfl
theorem f185 (F : Fx fa fb ts gs w K mg) : FunD K "_law_least" "_law_least" (defArgs s185) (defBody s185) (defScope s185) [] [] (ga K "_law_least") (fdOf K (ga K "_law_least")) := F.fn_ 3 (d := ⟨(fun K => ga K "_law_least"), "_law_least", "_law_least", defArgs s185, defBody s185, defScope s185⟩) rfl
theorem f112 (F : Fx fa fb ts gs w K mg) : FunD K "period" "Rhythm.period" (defArgs s112) (defBody s112) (defScope s112) [] [] (gAd "Rhythm" "period" K) (fdOf K (gAd "Rhythm" "period" K)) := F.fn_ 4 (d := ⟨(gAd "Rhythm" "period"), "period", "Rhythm.period", defArgs s112, defBody s112, defScope s112⟩) rfl
theorem f113 (F : Fx fa fb ts gs w K mg) : FunD K "beats" "Rhythm.beats" (defArgs s113) (defBody s113) (defScope s113) [] [] (gAd "Rhythm" "beats" K) (fdOf K (gAd "Rhythm" "beats" K)) := F.fn_ 5 (d := ⟨(gAd "Rhythm" "beats"), "beats", "Rhythm.beats", defArgs s113, defBody s113, defScope s113⟩) rfl
theorem f115 (F : Fx fa fb ts gs w K mg) : FunD K "__len__" "Rhythm.__len__" (defArgs s115) (defBody s115) (defScope s115) [] [] (ma K (ga K "Rhythm") "__len__") (fdOf K (ma K (ga K "Rhythm") "__len__")) := F.fn_ 6 (d := ⟨(fun K => ma K (ga K "Rhythm") "__len__"), "__len__", "Rhythm.__len__", defArgs s115, defBody s115, defScope s115⟩) rfl
theorem f162 (F : Fx fa fb ts gs w K mg) : FunD K "_law_sum" "_law_sum" (defArgs s162) (defBody s162) (defScope s162) [] [] (ga K "_law_sum") (fdOf K (ga K "_law_sum")) := F.fn_ 7 (d := ⟨(fun K => ga K "_law_sum"), "_law_sum", "_law_sum", defArgs s162, defBody s162, defScope s162⟩) rfl
theorem f114 (F : Fx fa fb ts gs w K mg) : FunD K "__eq__" "Rhythm.__eq__" (defArgs s114) (defBody s114) (defScope s114) [] [] (ma K (ga K "Rhythm") "__eq__") (fdOf K (ma K (ga K "Rhythm") "__eq__")) := F.fn_ 8 (d := ⟨(fun K => ma K (ga K "Rhythm") "__eq__"), "__eq__", "Rhythm.__eq__", defArgs s114, defBody s114, defScope s114⟩) rfl
theorem f1 (F : Fx fa fb ts gs w K mg) : FunD K "_law_refused" "_law_refused" (defArgs s1) (defBody s1) (defScope s1) [] [] (ga K "_law_refused") (fdOf K (ga K "_law_refused")) := F.fn_ 9 (d := ⟨(fun K => ga K "_law_refused"), "_law_refused", "_law_refused", defArgs s1, defBody s1, defScope s1⟩) rfl
theorem f161 (F : Fx fa fb ts gs w K mg) : FunD K "_law_frac" "_law_frac" (defArgs s161) (defBody s161) (defScope s161) [] [] (ga K "_law_frac") (fdOf K (ga K "_law_frac")) := F.fn_ 10 (d := ⟨(fun K => ga K "_law_frac"), "_law_frac", "_law_frac", defArgs s161, defBody s161, defScope s161⟩) rfl
theorem f183 (F : Fx fa fb ts gs w K mg) : FunD K "_law_taken" "_law_taken" (defArgs s183) (defBody s183) (defScope s183) [] [] (ga K "_law_taken") (fdOf K (ga K "_law_taken")) := F.fn_ 11 (d := ⟨(fun K => ga K "_law_taken"), "_law_taken", "_law_taken", defArgs s183, defBody s183, defScope s183⟩) rfl
theorem f116 (F : Fx fa fb ts gs w K mg) : FunD K "sound" "Rhythm.sound" (defArgs s116) (defBody s116) (defScope s116) [] [] (ma K (ga K "Rhythm") "sound") (fdOf K (ma K (ga K "Rhythm") "sound")) := F.fn_ 12 (d := ⟨(fun K => ma K (ga K "Rhythm") "sound"), "sound", "Rhythm.sound", defArgs s116, defBody s116, defScope s116⟩) rfl
theorem f187 (F : Fx fa fb ts gs w K mg) : FunD K "_law_sound" "_law_sound" (defArgs s187) (defBody s187) (defScope s187) [] [] (ga K "_law_sound") (fdOf K (ga K "_law_sound")) := F.fn_ 13 (d := ⟨(fun K => ga K "_law_sound"), "_law_sound", "_law_sound", defArgs s187, defBody s187, defScope s187⟩) rfl
theorem f117 (F : Fx fa fb ts gs w K mg) : FunD K "between" "Rhythm.between" (defArgs s117) (defBody s117) (defScope s117) [] [] (ma K (ga K "Rhythm") "between") (fdOf K (ma K (ga K "Rhythm") "between")) := F.fn_ 14 (d := ⟨(fun K => ma K (ga K "Rhythm") "between"), "between", "Rhythm.between", defArgs s117, defBody s117, defScope s117⟩) rfl
theorem f186 (F : Fx fa fb ts gs w K mg) : FunD K "_law_between" "_law_between" (defArgs s186) (defBody s186) (defScope s186) [] [] (ga K "_law_between") (fdOf K (ga K "_law_between")) := F.fn_ 15 (d := ⟨(fun K => ga K "_law_between"), "_law_between", "_law_between", defArgs s186, defBody s186, defScope s186⟩) rfl
theorem f105 (F : Fx fa fb ts gs w K mg) : FunD K "is_time" "is_time" (defArgs s105) (defBody s105) (defScope s105) [] [] (ga K "is_time") (fdOf K (ga K "is_time")) := F.fn_ 16 (d := ⟨(fun K => ga K "is_time"), "is_time", "is_time", defArgs s105, defBody s105, defScope s105⟩) rfl
theorem f108 (F : Fx fa fb ts gs w K mg) : FunD K "are_beats" "are_beats" (defArgs s108) (defBody s108) (defScope s108) [] [] (ga K "are_beats") (fdOf K (ga K "are_beats")) := F.fn_ 17 (d := ⟨(fun K => ga K "are_beats"), "are_beats", "are_beats", defArgs s108, defBody s108, defScope s108⟩) rfl
theorem f110 (F : Fx fa fb ts gs w K mg) : FunD K "least_form" "least_form" (defArgs s110) (defBody s110) (defScope s110) [] [] (ga K "least_form") (fdOf K (ga K "least_form")) := F.fn_ 18 (d := ⟨(fun K => ga K "least_form"), "least_form", "least_form", defArgs s110, defBody s110, defScope s110⟩) rfl
theorem f163 (F : Fx fa fb ts gs w K mg) : FunD K "_law_times" "_law_times" (defArgs s163) (defBody s163) (defScope s163) [] [] (ga K "_law_times") (fdOf K (ga K "_law_times")) := F.fn_ 19 (d := ⟨(fun K => ga K "_law_times"), "_law_times", "_law_times", defArgs s163, defBody s163, defScope s163⟩) rfl
theorem f164 (F : Fx fa fb ts gs w K mg) : FunD K "_law_less" "_law_less" (defArgs s164) (defBody s164) (defScope s164) [] [] (ga K "_law_less") (fdOf K (ga K "_law_less")) := F.fn_ 20 (d := ⟨(fun K => ga K "_law_less"), "_law_less", "_law_less", defArgs s164, defBody s164, defScope s164⟩) rfl
theorem f77 (F : Fx fa fb ts gs w K mg) : FunD K "beyond" "beyond" (defArgs s77) (defBody s77) (defScope s77) [] [] (ga K "beyond") (fdOf K (ga K "beyond")) := F.fn_ 21 (d := ⟨(fun K => ga K "beyond"), "beyond", "beyond", defArgs s77, defBody s77, defScope s77⟩) rfl
theorem f74 (F : Fx fa fb ts gs w K mg) : FunD K "floor" "floor" (defArgs s74) (defBody s74) (defScope s74) [] [] (ga K "floor") (fdOf K (ga K "floor")) := F.fn_ 22 (d := ⟨(fun K => ga K "floor"), "floor", "floor", defArgs s74, defBody s74, defScope s74⟩) rfl
theorem f72 (F : Fx fa fb ts gs w K mg) : FunD K "over" "over" (defArgs s72) (defBody s72) (defScope s72) [] [] (ga K "over") (fdOf K (ga K "over")) := F.fn_ 23 (d := ⟨(fun K => ga K "over"), "over", "over", defArgs s72, defBody s72, defScope s72⟩) rfl
theorem f75 (F : Fx fa fb ts gs w K mg) : FunD K "ceiling" "ceiling" (defArgs s75) (defBody s75) (defScope s75) [] [] (ga K "ceiling") (fdOf K (ga K "ceiling")) := F.fn_ 24 (d := ⟨(fun K => ga K "ceiling"), "ceiling", "ceiling", defArgs s75, defBody s75, defScope s75⟩) rfl
theorem f71 (F : Fx fa fb ts gs w K mg) : FunD K "product" "product" (defArgs s71) (defBody s71) (defScope s71) [] [] (ga K "product") (fdOf K (ga K "product")) := F.fn_ 25 (d := ⟨(fun K => ga K "product"), "product", "product", defArgs s71, defBody s71, defScope s71⟩) rfl
theorem f69 (F : Fx fa fb ts gs w K mg) : FunD K "added" "added" (defArgs s69) (defBody s69) (defScope s69) [] [] (ga K "added") (fdOf K (ga K "added")) := F.fn_ 26 (d := ⟨(fun K => ga K "added"), "added", "added", defArgs s69, defBody s69, defScope s69⟩) rfl
theorem f73 (F : Fx fa fb ts gs w K mg) : FunD K "is_less" "is_less" (defArgs s73) (defBody s73) (defScope s73) [] [] (ga K "is_less") (fdOf K (ga K "is_less")) := F.fn_ 27 (d := ⟨(fun K => ga K "is_less"), "is_less", "is_less", defArgs s73, defBody s73, defScope s73⟩) rfl
theorem f68 (F : Fx fa fb ts gs w K mg) : FunD K "is_fraction" "is_fraction" (defArgs s68) (defBody s68) (defScope s68) [] [] (ga K "is_fraction") (fdOf K (ga K "is_fraction")) := F.fn_ 28 (d := ⟨(fun K => ga K "is_fraction"), "is_fraction", "is_fraction", defArgs s68, defBody s68, defScope s68⟩) rfl
theorem f107 (F : Fx fa fb ts gs w K mg) : FunD K "is_beat" "is_beat" (defArgs s107) (defBody s107) (defScope s107) [] [] (ga K "is_beat") (fdOf K (ga K "is_beat")) := F.fn_ 29 (d := ⟨(fun K => ga K "is_beat"), "is_beat", "is_beat", defArgs s107, defBody s107, defScope s107⟩) rfl
theorem f109 (F : Fx fa fb ts gs w K mg) : FunD K "comes_round" "comes_round" (defArgs s109) (defBody s109) (defScope s109) [] [] (ga K "comes_round") (fdOf K (ga K "comes_round")) := F.fn_ 30 (d := ⟨(fun K => ga K "comes_round"), "comes_round", "comes_round", defArgs s109, defBody s109, defScope s109⟩) rfl
theorem f70 (F : Fx fa fb ts gs w K mg) : FunD K "less" "less" (defArgs s70) (defBody s70) (defScope s70) [] [] (ga K "less") (fdOf K (ga K "less")) := F.fn_ 31 (d := ⟨(fun K => ga K "less"), "less", "less", defArgs s70, defBody s70, defScope s70⟩) rfl
theorem f67 (F : Fx fa fb ts gs w K mg) : FunD K "fraction" "fraction" (defArgs s67) (defBody s67) (defScope s67) [] [] (ga K "fraction") (fdOf K (ga K "fraction")) := F.fn_ 32 (d := ⟨(fun K => ga K "fraction"), "fraction", "fraction", defArgs s67, defBody s67, defScope s67⟩) rfl
theorem f64 (F : Fx fa fb ts gs w K mg) : FunD K "is_whole" "is_whole" (defArgs s64) (defBody s64) (defScope s64) [] [] (ga K "is_whole") (fdOf K (ga K "is_whole")) := F.fn_ 33 (d := ⟨(fun K => ga K "is_whole"), "is_whole", "is_whole", defArgs s64, defBody s64, defScope s64⟩) rfl
theorem f65 (F : Fx fa fb ts gs w K mg) : FunD K "common" "common" (defArgs s65) (defBody s65) (defScope s65) [] [] (ga K "common") (fdOf K (ga K "common")) := F.fn_ 34 (d := ⟨(fun K => ga K "common"), "common", "common", defArgs s65, defBody s65, defScope s65⟩) rfl
theorem f106 (F : Fx fa fb ts gs w K mg) : FunD K "are_letters" "are_letters" (defArgs s106) (defBody s106) (defScope s106) [] [] (ga K "are_letters") (fdOf K (ga K "are_letters")) := F.fn_ 35 (d := ⟨(fun K => ga K "are_letters"), "are_letters", "are_letters", defArgs s106, defBody s106, defScope s106⟩) rfl
theorem f_x_InvalidPeriod (F : Fx fa fb ts gs w K mg) : FunD K "__init__" "InvalidPeriod.__init__" (defArgs s_x_InvalidPeriod) (defBody s_x_InvalidPeriod) (defScope s_x_InvalidPeriod) [] [] (ma K (ga K "InvalidPeriod") "__init__") (fdOf K (ma K (ga K "InvalidPeriod") "__init__")) := F.fn_ 36 (d := ⟨(fun K => ma K (ga K "InvalidPeriod") "__init__"), "__init__", "InvalidPeriod.__init__", defArgs s_x_InvalidPeriod, defBody s_x_InvalidPeriod, defScope s_x_InvalidPeriod⟩) rfl
theorem f_x_InvalidBeats (F : Fx fa fb ts gs w K mg) : FunD K "__init__" "InvalidBeats.__init__" (defArgs s_x_InvalidBeats) (defBody s_x_InvalidBeats) (defScope s_x_InvalidBeats) [] [] (ma K (ga K "InvalidBeats") "__init__") (fdOf K (ma K (ga K "InvalidBeats") "__init__")) := F.fn_ 37 (d := ⟨(fun K => ma K (ga K "InvalidBeats") "__init__"), "__init__", "InvalidBeats.__init__", defArgs s_x_InvalidBeats, defBody s_x_InvalidBeats, defScope s_x_InvalidBeats⟩) rfl
theorem bi0 (F : Fx fa fb ts gs w K mg) : Binds K (fdOf K (ga K "law")) ["_law_script"] [] := (f0 F).bindsN fun _ _ _ _ _ _ us hl => match us, hl with | [_], _ => by kernel_rfl
theorem bi184 (F : Fx fa fb ts gs w K mg) : Binds K (fdOf K (ga K "_law_rhythm")) ["_law_row"] [] := (f184 F).bindsN fun _ _ _ _ _ _ us hl => match us, hl with | [_], _ => by kernel_rfl
theorem bi111 (F : Fx fa fb ts gs w K mg) : Binds K (fdOf K (ma K (ga K "Rhythm") "__init__")) ["self", "period", "beats"] [] := (f111 F).bindsN fun _ _ _ _ _ _ us hl => match us, hl with | [_, _, _], _ => by kernel_rfl
theorem bi185 (F : Fx fa fb ts gs w K mg) : Binds K (fdOf K (ga K "_law_least")) ["_law_period", "_law_beats_here"] [] := (f185 F).bindsN fun _ _ _ _ _ _ us hl => match us, hl with | [_, _], _ => by kernel_rfl
theorem bi112 (F : Fx fa fb ts gs w K mg) : Binds K (fdOf K (gAd "Rhythm" "period" K)) ["self"] [] := (f112 F).bindsN fun _ _ _ _ _ _ us hl => match us, hl with | [_], _ => by kernel_rfl
theorem bi113 (F : Fx fa fb ts gs w K mg) : Binds K (fdOf K (gAd "Rhythm" "beats" K)) ["self"] [] := (f113 F).bindsN fun _ _ _ _ _ _ us hl => match us, hl with | [_], _ => by kernel_rfl
theorem bi115 (F : Fx fa fb ts gs w K mg) : Binds K (fdOf K (ma K (ga K "Rhythm") "__len__")) ["self"] [] := (f115 F).bindsN fun _ _ _ _ _ _ us hl => match us, hl with | [_], _ => by kernel_rfl
theorem bi162 (F : Fx fa fb ts gs w K mg) : Binds K (fdOf K (ga K "_law_sum")) ["_law_one", "_law_mate"] [] := (f162 F).bindsN fun _ _ _ _ _ _ us hl => match us, hl with | [_, _], _ => by kernel_rfl
theorem bi114 (F : Fx fa fb ts gs w K mg) : Binds K (fdOf K (ma K (ga K "Rhythm") "__eq__")) ["self", "other"] [] := (f114 F).bindsN fun _ _ _ _ _ _ us hl => match us, hl with | [_, _], _ => by kernel_rfl
theorem bi1 (F : Fx fa fb ts gs w K mg) : Binds K (fdOf K (ga K "_law_refused")) ["_law_period", "_law_beats_here"] [] := (f1 F).bindsN fun _ _ _ _ _ _ us hl => match us, hl with | [_, _], _ => by kernel_rfl
theorem bi161 (F : Fx fa fb ts gs w K mg) : Binds K (fdOf K (ga K "_law_frac")) ["_law_number", "_law_parts"] [] := (f161 F).bindsN fun _ _ _ _ _ _ us hl => match us, hl with | [_, _], _ => by kernel_rfl
theorem bi183 (F : Fx fa fb ts gs w K mg) : Binds K (fdOf K (ga K "_law_taken")) ["_law_row", "_law_many"] [] := (f183 F).bindsN fun _ _ _ _ _ _ us hl => match us, hl with | [_, _], _ => by kernel_rfl
theorem bi116 (F : Fx fa fb ts gs w K mg) : Binds K (fdOf K (ma K (ga K "Rhythm") "sound")) ["self", "time"] [] := (f116 F).bindsN fun _ _ _ _ _ _ us hl => match us, hl with | [_, _], _ => by kernel_rfl
theorem bi187 (F : Fx fa fb ts gs w K mg) : Binds K (fdOf K (ga K "_law_sound")) ["_law_mech", "_law_time"] [] := (f187 F).bindsN fun _ _ _ _ _ _ us hl => match us, hl with | [_, _], _ => by kernel_rfl
theorem bi117 (F : Fx fa fb ts gs w K mg) : Binds K (fdOf K (ma K (ga K "Rhythm") "between")) ["self", "start", "end"] [] := (f117 F).bindsN fun _ _ _ _ _ _ us hl => match us, hl with | [_, _, _], _ => by kernel_rfl
theorem bi186 (F : Fx fa fb ts gs w K mg) : Binds K (fdOf K (ga K "_law_between")) ["_law_mech", "_law_start", "_law_end"] [] := (f186 F).bindsN fun _ _ _ _ _ _ us hl => match us, hl with | [_, _, _], _ => by kernel_rfl
theorem bi105 (F : Fx fa fb ts gs w K mg) : Binds K (fdOf K (ga K "is_time")) ["value"] [] := (f105 F).bindsN fun _ _ _ _ _ _ us hl => match us, hl with | [_], _ => by kernel_rfl
theorem bi108 (F : Fx fa fb ts gs w K mg) : Binds K (fdOf K (ga K "are_beats")) ["value", "end"] [] := (f108 F).bindsN fun _ _ _ _ _ _ us hl => match us, hl with | [_, _], _ => by kernel_rfl
theorem bi110 (F : Fx fa fb ts gs w K mg) : Binds K (fdOf K (ga K "least_form")) ["period", "beats"] [] := (f110 F).bindsN fun _ _ _ _ _ _ us hl => match us, hl with | [_, _], _ => by kernel_rfl
theorem bi163 (F : Fx fa fb ts gs w K mg) : Binds K (fdOf K (ga K "_law_times")) ["_law_one", "_law_mate"] [] := (f163 F).bindsN fun _ _ _ _ _ _ us hl => match us, hl with | [_, _], _ => by kernel_rfl
theorem bi164 (F : Fx fa fb ts gs w K mg) : Binds K (fdOf K (ga K "_law_less")) ["_law_one", "_law_mate"] [] := (f164 F).bindsN fun _ _ _ _ _ _ us hl => match us, hl with | [_, _], _ => by kernel_rfl
theorem bi77 (F : Fx fa fb ts gs w K mg) : Binds K (fdOf K (ga K "beyond")) ["one", "other"] [] := (f77 F).bindsN fun _ _ _ _ _ _ us hl => match us, hl with | [_, _], _ => by kernel_rfl
theorem bi74 (F : Fx fa fb ts gs w K mg) : Binds K (fdOf K (ga K "floor")) ["one"] [] := (f74 F).bindsN fun _ _ _ _ _ _ us hl => match us, hl with | [_], _ => by kernel_rfl
theorem bi72 (F : Fx fa fb ts gs w K mg) : Binds K (fdOf K (ga K "over")) ["one", "other"] [] := (f72 F).bindsN fun _ _ _ _ _ _ us hl => match us, hl with | [_, _], _ => by kernel_rfl
theorem bi75 (F : Fx fa fb ts gs w K mg) : Binds K (fdOf K (ga K "ceiling")) ["one"] [] := (f75 F).bindsN fun _ _ _ _ _ _ us hl => match us, hl with | [_], _ => by kernel_rfl
theorem bi71 (F : Fx fa fb ts gs w K mg) : Binds K (fdOf K (ga K "product")) ["one", "other"] [] := (f71 F).bindsN fun _ _ _ _ _ _ us hl => match us, hl with | [_, _], _ => by kernel_rfl
theorem bi69 (F : Fx fa fb ts gs w K mg) : Binds K (fdOf K (ga K "added")) ["one", "other"] [] := (f69 F).bindsN fun _ _ _ _ _ _ us hl => match us, hl with | [_, _], _ => by kernel_rfl
theorem bi73 (F : Fx fa fb ts gs w K mg) : Binds K (fdOf K (ga K "is_less")) ["one", "other"] [] := (f73 F).bindsN fun _ _ _ _ _ _ us hl => match us, hl with | [_, _], _ => by kernel_rfl
theorem bi68 (F : Fx fa fb ts gs w K mg) : Binds K (fdOf K (ga K "is_fraction")) ["value"] [] := (f68 F).bindsN fun _ _ _ _ _ _ us hl => match us, hl with | [_], _ => by kernel_rfl
theorem bi107 (F : Fx fa fb ts gs w K mg) : Binds K (fdOf K (ga K "is_beat")) ["value"] [] := (f107 F).bindsN fun _ _ _ _ _ _ us hl => match us, hl with | [_], _ => by kernel_rfl
theorem bi109 (F : Fx fa fb ts gs w K mg) : Binds K (fdOf K (ga K "comes_round")) ["beats", "many", "period"] [] := (f109 F).bindsN fun _ _ _ _ _ _ us hl => match us, hl with | [_, _, _], _ => by kernel_rfl
theorem bi70 (F : Fx fa fb ts gs w K mg) : Binds K (fdOf K (ga K "less")) ["one", "other"] [] := (f70 F).bindsN fun _ _ _ _ _ _ us hl => match us, hl with | [_, _], _ => by kernel_rfl
theorem bi67 (F : Fx fa fb ts gs w K mg) : Binds K (fdOf K (ga K "fraction")) ["number", "parts"] [] := (f67 F).bindsN fun _ _ _ _ _ _ us hl => match us, hl with | [_, _], _ => by kernel_rfl
theorem bi64 (F : Fx fa fb ts gs w K mg) : Binds K (fdOf K (ga K "is_whole")) ["value"] [] := (f64 F).bindsN fun _ _ _ _ _ _ us hl => match us, hl with | [_], _ => by kernel_rfl
theorem bi65 (F : Fx fa fb ts gs w K mg) : Binds K (fdOf K (ga K "common")) ["one", "other"] [] := (f65 F).bindsN fun _ _ _ _ _ _ us hl => match us, hl with | [_, _], _ => by kernel_rfl
theorem bi106 (F : Fx fa fb ts gs w K mg) : Binds K (fdOf K (ga K "are_letters")) ["value"] [] := (f106 F).bindsN fun _ _ _ _ _ _ us hl => match us, hl with | [_], _ => by kernel_rfl
theorem xs_InvalidPeriod : FnScope ["self"] ["self"] (defScope s_x_InvalidPeriod) := ⟨rfl, rfl, rfl, by decide +kernel, rfl, by decide +kernel, by decide +kernel⟩
theorem xk_InvalidPeriod (F : Fx fa fb ts gs w K mg) {j : Nat} : FnOk PR w K mg base (L2.CX PR w) (j + 1) (ma K (ga K "InvalidPeriod") "__init__") (fdOf K (ma K (ga K "InvalidPeriod") "__init__")) ["self"] (spX0 K (ga K "InvalidPeriod")) := ok_exc0 (f_x_InvalidPeriod F) xs_InvalidPeriod (fun _ _ _ _ _ _ => pe_beinit rfl (F.glo 53) (bex_ok (F.more 10)).ga (bex_ok (F.more 10)).rd (bex_ok (F.more 10)).ini (pa_cons (pe_var (i := 0) rfl (.inl rfl) (by decide) (by decide)) (pa_cons pe_str pa_nil))) (fun _ _ => rfl)
theorem xs_InvalidBeats : FnScope ["self"] ["self"] (defScope s_x_InvalidBeats) := ⟨rfl, rfl, rfl, by decide +kernel, rfl, by decide +kernel, by decide +kernel⟩
theorem xk_InvalidBeats (F : Fx fa fb ts gs w K mg) {j : Nat} : FnOk PR w K mg base (L2.CX PR w) (j + 1) (ma K (ga K "InvalidBeats") "__init__") (fdOf K (ma K (ga K "InvalidBeats") "__init__")) ["self"] (spX0 K (ga K "InvalidBeats")) := ok_exc0 (f_x_InvalidBeats F) xs_InvalidBeats (fun _ _ _ _ _ _ => pe_beinit rfl (F.glo 53) (bex_ok (F.more 10)).ga (bex_ok (F.more 10)).rd (bex_ok (F.more 10)).ini (pa_cons (pe_var (i := 0) rfl (.inl rfl) (by decide) (by decide)) (pa_cons pe_str pa_nil))) (fun _ _ => rfl)
theorem catch_InvalidPeriod (F : Fx fa fb ts gs w K mg) : Catch (cm K) K (.ref (ga K "InvalidPeriod")) catch_InvalidPeriod_t := fun cl k C h1 h2 => by
  unfold catch_InvalidPeriod_t at h1
  split at h1
  · cases h1
    cases (show some (ga K "InvalidPeriod") = some C from h2)
    exact F.exm 54
  · cases h1
    cases (show some (ga K "InvalidBeats") = some C from h2)
    exact F.exm 55
  · cases h1
theorem catch_InvalidBeats (F : Fx fa fb ts gs w K mg) : Catch (cm K) K (.ref (ga K "InvalidBeats")) catch_InvalidBeats_t := fun cl k C h1 h2 => by
  unfold catch_InvalidBeats_t at h1
  split at h1
  · cases h1
    cases (show some (ga K "InvalidPeriod") = some C from h2)
    exact F.exm 56
  · cases h1
    cases (show some (ga K "InvalidBeats") = some C from h2)
    exact F.exm 57
  · cases h1
theorem xb_InvalidPeriod (F : Fx fa fb ts gs w K mg) : Binds K (fdOf K (ma K (ga K "InvalidPeriod") "__init__")) ["self"] [] := (f_x_InvalidPeriod F).bindsN fun _ _ _ _ _ _ us hl => match us, hl with | [_], _ => by kernel_rfl
theorem xb_InvalidBeats (F : Fx fa fb ts gs w K mg) : Binds K (fdOf K (ma K (ga K "InvalidBeats") "__init__")) ["self"] [] := (f_x_InvalidBeats F).bindsN fun _ _ _ _ _ _ us hl => match us, hl with | [_], _ => by kernel_rfl
structure Hy (w : World) (K : PySem.W.Frag) (mg : Str → Option Value) (base : Heap) (k : Nat) : Prop where
  k0 : FnOk PR w K mg base (L2.CX PR w) (3 * k) (ga K "law") (fdOf K (ga K "law")) ["_law_script"] (spF ⟨PR, w, K, cm K⟩ (runFn T k 0))
  k184 : FnOk PR w K mg base (L2.CX PR w) (3 * k) (ga K "_law_rhythm") (fdOf K (ga K "_law_rhythm")) ["_law_row"] (spF ⟨PR, w, K, cm K⟩ (runFn T k 184))
  k111 : FnOk PR w K mg base (L2.CX PR w) (3 * k) (ma K (ga K "Rhythm") "__init__") (fdOf K (ma K (ga K "Rhythm") "__init__")) ["self", "period", "beats"] (spI ⟨PR, w, K, cm K⟩ 0 (runFn T k 111))
  k185 : FnOk PR w K mg base (L2.CX PR w) (3 * k) (ga K "_law_least") (fdOf K (ga K "_law_least")) ["_law_period", "_law_beats_here"] (spF ⟨PR, w, K, cm K⟩ (runFn T k 185))
  k112 : FnOk PR w K mg base (L2.CX PR w) (3 * k) (gAd "Rhythm" "period" K) (fdOf K (gAd "Rhythm" "period" K)) ["self"] (spF ⟨PR, w, K, cm K⟩ (runFn T k 112))
  k113 : FnOk PR w K mg base (L2.CX PR w) (3 * k) (gAd "Rhythm" "beats" K) (fdOf K (gAd "Rhythm" "beats" K)) ["self"] (spF ⟨PR, w, K, cm K⟩ (runFn T k 113))
  k115 : FnOk PR w K mg base (L2.CX PR w) (3 * k) (ma K (ga K "Rhythm") "__len__") (fdOf K (ma K (ga K "Rhythm") "__len__")) ["self"] (spF ⟨PR, w, K, cm K⟩ (runFn T k 115))
  k162 : FnOk PR w K mg base (L2.CX PR w) (3 * k) (ga K "_law_sum") (fdOf K (ga K "_law_sum")) ["_law_one", "_law_mate"] (spF ⟨PR, w, K, cm K⟩ (runFn T k 162))
  k114 : FnOk PR w K mg base (L2.CX PR w) (3 * k) (ma K (ga K "Rhythm") "__eq__") (fdOf K (ma K (ga K "Rhythm") "__eq__")) ["self", "other"] (spF ⟨PR, w, K, cm K⟩ (runFn T k 114))
  k1 : FnOk PR w K mg base (L2.CX PR w) (3 * k) (ga K "_law_refused") (fdOf K (ga K "_law_refused")) ["_law_period", "_law_beats_here"] (spF ⟨PR, w, K, cm K⟩ (runFn T k 1))
  k161 : FnOk PR w K mg base (L2.CX PR w) (3 * k) (ga K "_law_frac") (fdOf K (ga K "_law_frac")) ["_law_number", "_law_parts"] (spF ⟨PR, w, K, cm K⟩ (runFn T k 161))
  k183 : FnOk PR w K mg base (L2.CX PR w) (3 * k) (ga K "_law_taken") (fdOf K (ga K "_law_taken")) ["_law_row", "_law_many"] (spF ⟨PR, w, K, cm K⟩ (runFn T k 183))
  k116 : FnOk PR w K mg base (L2.CX PR w) (3 * k) (ma K (ga K "Rhythm") "sound") (fdOf K (ma K (ga K "Rhythm") "sound")) ["self", "time"] (spF ⟨PR, w, K, cm K⟩ (runFn T k 116))
  k187 : FnOk PR w K mg base (L2.CX PR w) (3 * k) (ga K "_law_sound") (fdOf K (ga K "_law_sound")) ["_law_mech", "_law_time"] (spF ⟨PR, w, K, cm K⟩ (runFn T k 187))
  k117 : FnOk PR w K mg base (L2.CX PR w) (3 * k) (ma K (ga K "Rhythm") "between") (fdOf K (ma K (ga K "Rhythm") "between")) ["self", "start", "end"] (spF ⟨PR, w, K, cm K⟩ (runFn T k 117))
  k186 : FnOk PR w K mg base (L2.CX PR w) (3 * k) (ga K "_law_between") (fdOf K (ga K "_law_between")) ["_law_mech", "_law_start", "_law_end"] (spF ⟨PR, w, K, cm K⟩ (runFn T k 186))
  k105 : FnOk PR w K mg base (L2.CX PR w) (3 * k) (ga K "is_time") (fdOf K (ga K "is_time")) ["value"] (spF ⟨PR, w, K, cm K⟩ (runFn T k 105))
  k108 : FnOk PR w K mg base (L2.CX PR w) (3 * k) (ga K "are_beats") (fdOf K (ga K "are_beats")) ["value", "end"] (spF ⟨PR, w, K, cm K⟩ (runFn T k 108))
  k110 : FnOk PR w K mg base (L2.CX PR w) (3 * k) (ga K "least_form") (fdOf K (ga K "least_form")) ["period", "beats"] (spF ⟨PR, w, K, cm K⟩ (runFn T k 110))
  k163 : FnOk PR w K mg base (L2.CX PR w) (3 * k) (ga K "_law_times") (fdOf K (ga K "_law_times")) ["_law_one", "_law_mate"] (spF ⟨PR, w, K, cm K⟩ (runFn T k 163))
  k164 : FnOk PR w K mg base (L2.CX PR w) (3 * k) (ga K "_law_less") (fdOf K (ga K "_law_less")) ["_law_one", "_law_mate"] (spF ⟨PR, w, K, cm K⟩ (runFn T k 164))
  k77 : FnOk PR w K mg base (L2.CX PR w) (3 * k) (ga K "beyond") (fdOf K (ga K "beyond")) ["one", "other"] (spF ⟨PR, w, K, cm K⟩ (runFn T k 77))
  k74 : FnOk PR w K mg base (L2.CX PR w) (3 * k) (ga K "floor") (fdOf K (ga K "floor")) ["one"] (spF ⟨PR, w, K, cm K⟩ (runFn T k 74))
  k72 : FnOk PR w K mg base (L2.CX PR w) (3 * k) (ga K "over") (fdOf K (ga K "over")) ["one", "other"] (spF ⟨PR, w, K, cm K⟩ (runFn T k 72))
  k75 : FnOk PR w K mg base (L2.CX PR w) (3 * k) (ga K "ceiling") (fdOf K (ga K "ceiling")) ["one"] (spF ⟨PR, w, K, cm K⟩ (runFn T k 75))
  k71 : FnOk PR w K mg base (L2.CX PR w) (3 * k) (ga K "product") (fdOf K (ga K "product")) ["one", "other"] (spF ⟨PR, w, K, cm K⟩ (runFn T k 71))
  k69 : FnOk PR w K mg base (L2.CX PR w) (3 * k) (ga K "added") (fdOf K (ga K "added")) ["one", "other"] (spF ⟨PR, w, K, cm K⟩ (runFn T k 69))
  k73 : FnOk PR w K mg base (L2.CX PR w) (3 * k) (ga K "is_less") (fdOf K (ga K "is_less")) ["one", "other"] (spF ⟨PR, w, K, cm K⟩ (runFn T k 73))
  k68 : FnOk PR w K mg base (L2.CX PR w) (3 * k) (ga K "is_fraction") (fdOf K (ga K "is_fraction")) ["value"] (spF ⟨PR, w, K, cm K⟩ (runFn T k 68))
  k107 : FnOk PR w K mg base (L2.CX PR w) (3 * k) (ga K "is_beat") (fdOf K (ga K "is_beat")) ["value"] (spF ⟨PR, w, K, cm K⟩ (runFn T k 107))
  k109 : FnOk PR w K mg base (L2.CX PR w) (3 * k) (ga K "comes_round") (fdOf K (ga K "comes_round")) ["beats", "many", "period"] (spF ⟨PR, w, K, cm K⟩ (runFn T k 109))
  k70 : FnOk PR w K mg base (L2.CX PR w) (3 * k) (ga K "less") (fdOf K (ga K "less")) ["one", "other"] (spF ⟨PR, w, K, cm K⟩ (runFn T k 70))
  k67 : FnOk PR w K mg base (L2.CX PR w) (3 * k) (ga K "fraction") (fdOf K (ga K "fraction")) ["number", "parts"] (spF ⟨PR, w, K, cm K⟩ (runFn T k 67))
  k64 : FnOk PR w K mg base (L2.CX PR w) (3 * k) (ga K "is_whole") (fdOf K (ga K "is_whole")) ["value"] (spF ⟨PR, w, K, cm K⟩ (runFn T k 64))
  k65 : FnOk PR w K mg base (L2.CX PR w) (3 * k) (ga K "common") (fdOf K (ga K "common")) ["one", "other"] (spF ⟨PR, w, K, cm K⟩ (runFn T k 65))
  k106 : FnOk PR w K mg base (L2.CX PR w) (3 * k) (ga K "are_letters") (fdOf K (ga K "are_letters")) ["value"] (spF ⟨PR, w, K, cm K⟩ (runFn T k 106))
set_option linter.unusedVariables false in
theorem o0 (F : Fx fa fb ts gs w K mg) {k : Nat} (h : Hy w K mg base k) : FnOk PR w K mg base (L2.CX PR w) (3 * (k + 1)) (ga K "law") (fdOf K (ga K "law")) ["_law_script"] (spF ⟨PR, w, K, cm K⟩ (runFn T (k + 1) 0)) :=
  ok_def (j := 3 * k + 2) (fn := fn0) (f0 F) sc0 rfl rfl rfl rfl fun cdv A outer s H E hr => by
    have tk := takes_of (X := cxOf (L2.CX PR w) PR w K mg base ["_law_script", "_law_row", "_law_turn", "_law_odd", "_law_again", "_law_other", "_law_time", "_law_period", "_law_beats_here", "_law_rhythm_here", "_law_due", "_law_letters"] "law" (defScope s0) (ga K "law") cdv A outer s H E) rfl rfl rfl rfl
    have hp := passes_of (X := cxOf (L2.CX PR w) PR w K mg base ["_law_script", "_law_row", "_law_turn", "_law_odd", "_law_again", "_law_other", "_law_time", "_law_period", "_law_beats_here", "_law_rhythm_here", "_law_due", "_law_letters"] "law" (defScope s0) (ga K "law") cdv A outer s H E) rfl
    have hN := sc0.nd
    show CSs _ _ _ (b0 (runFn T k)) _
    delta b0
    exact css_cons (cs_set 1 (cf_val (ce_newL (cf_lst (ca_cons (ce_var 0) (ca_cons (ce_int) (ca_cons (ce_int) (ca_cons (ce_int) (ca_nil)))))))) hN) (css_cons (cs_for hp rfl (ci_rng1 (F.free 0) (ce_int)) (cg_of (cgp_name 2 hN)) (css_cons (cs_asg (ce_frz (cf_call h.k184 (hr.mono (by omega)) (F.glo 1) (f184 F).kp (bi184 F) tk (ca_cons (ce_var 1) (ca_nil)))) (cg_of (cgp_tup rfl (cgps_cons (cgp_name 7 hN) (cgps_cons (cgp_name 8 hN) (cgps_nil)))))) (css_cons ((by first | exact cs_par 9 10 rfl hN (cf_val (ce_frz (cf_make (F.mkr 2) h.k111 (hr.mono (by omega)) (F.glo 3) rfl (bi111 F) tk (ca_cons (ce_var 7) (ca_cons (ce_var 8) (ca_nil)))))) (cf_val (ce_frz (cf_call h.k185 (hr.mono (by omega)) (F.glo 4) (f185 F).kp (bi185 F) tk (ca_cons (ce_var 7) (ca_cons (ce_var 8) (ca_nil)))))) | exact cs_parT 9 10 rfl hN (cf_val (ce_frz (cf_make (F.mkr 2) h.k111 (hr.mono (by omega)) (F.glo 3) rfl (bi111 F) tk (ca_cons (ce_var 7) (ca_cons (ce_var 8) (ca_nil)))))) (cf_val (ce_frz (cf_call h.k185 (hr.mono (by omega)) (F.glo 4) (f185 F).kp (bi185 F) tk (ca_cons (ce_var 7) (ca_cons (ce_var 8) (ca_nil)))))))) (css_cons (cs_if (ct_w (cw_or (ct_cmp (op_neD hr.units) rd_ne (ce_tup (ca_cons (ce_frz (cf_prop (ce_var 9) (C := ga K "Rhythm") rfl (F.cls 5) (prop_ok (F.more 0)) h.k112 (hr.mono (by omega)) (bi112 F))) (ca_cons (ce_frz (cf_prop (ce_var 9) (C := ga K "Rhythm") rfl (F.cls 5) (prop_ok (F.more 1)) h.k113 (hr.mono (by omega)) (bi113 F))) (ca_nil)))) (ce_var 10)) (cw_or1 (ct_cmp (op_neD hr.units) rd_ne (ce_lenI (len_ok (F.more 2)) rfl h.k115 (hr.mono (by omega)) (bi115 F) (F.free 6) (ce_var 9)) (ce_lenS (F.free 6) (ce_ixS (ce_var 10) (ce_int))))))) (css_one (cs_ret (cf_val (ce_bl)))) (css_nil)) (css_cons (cs_set 4 (cf_val (ce_op op_addAll rd_add (ce_var 8) (ce_callTy call_tupleN rd_tuple rfl (F.free 8) (by decide +kernel) (ca_cons (ce_frz (cf_lc (own := [("_law_time", 6), ("_law_letters", 11)]) rfl hN (ci_any (ce_var 8)) (BlkOk.mk (N := ["_law_script", "_law_row", "_law_turn", "_law_odd", "_law_again", "_law_other", "_law_time", "_law_period", "_law_beats_here", "_law_rhythm_here", "_law_due", "_law_letters"]) (sc := defScope s0) rfl (by decide +kernel) (by decide +kernel) (by decide +kernel) (by decide +kernel)) (by decide +kernel) (fun _ _ _ _ _ => cgp_tup rfl (cgps_cons (cgp_name 6 hN) (cgps_cons (cgp_name 11 hN) (cgps_nil)))) (fun _ _ _ _ _ => cts_nil) (fun _ _ _ _ _ => ce_tup (ca_cons (ce_frz (cf_call h.k162 (hr.mono (by omega)) (F.glo 7) (f162 F).kp (bi162 F) takes0 (ca_cons (ce_var 6) (ca_cons (ce_var 7) (ca_nil))))) (ca_cons (ce_var 11) (ca_nil)))))) (ca_nil))))) hN) (css_cons (cs_if (ct_w (cw_or (ct_neOwn (one_ok (F.more 4)) (cmp_ok (F.more 3)) rfl h.k114 (hr.mono (by omega)) (bi114 F) tk (ce_frz (cf_make (F.mkr 2) h.k111 (hr.mono (by omega)) (F.glo 3) rfl (bi111 F) tk (ca_cons (ce_frz (cf_call h.k162 (hr.mono (by omega)) (F.glo 7) (f162 F).kp (bi162 F) tk (ca_cons (ce_var 7) (ca_cons (ce_var 7) (ca_nil))))) (ca_cons (ce_var 4) (ca_nil))))) (ce_var 9)) (cw_or1 (ct_cmp op_notN rd_notN (ce_frz (cf_call h.k1 (hr.mono (by omega)) (F.glo 9) (f1 F).kp (bi1 F) tk (ca_cons (ce_var 7) (ca_cons (ce_var 8) (ca_nil))))) (ce_non))))) (css_one (cs_ret (cf_val (ce_bl)))) (css_nil)) (css_cons (cs_set 5 (cf_val (ce_frz (cf_call h.k184 (hr.mono (by omega)) (F.glo 1) (f184 F).kp (bi184 F) tk (ca_cons (ce_var 1) (ca_nil))))) hN) (css_cons (cs_if (ct_cmp (op_neD hr.units) rd_ne (ce_frz (cf_eqOwn (cmp_ok (F.more 3)) rfl h.k114 (hr.mono (by omega)) (bi114 F) tk (ce_frz (cf_make (F.mkr 2) h.k111 (hr.mono (by omega)) (F.glo 3) rfl (bi111 F) tk (ca_cons (ce_ixS (ce_var 5) (ce_int)) (ca_cons (ce_ixS (ce_var 5) (ce_int)) (ca_nil))))) (ce_var 9))) (ce_cmp (op_eqD hr.units) rd_eq (ce_frz (cf_call h.k185 (hr.mono (by omega)) (F.glo 4) (f185 F).kp (bi185 F) tk (ca_cons (ce_ixS (ce_var 5) (ce_int)) (ca_cons (ce_ixS (ce_var 5) (ce_int)) (ca_nil))))) (ce_var 10))) (css_one (cs_ret (cf_val (ce_bl)))) (css_nil)) (css_cons (cs_set 6 (cf_val (ce_frz (cf_call h.k161 (hr.mono (by omega)) (F.glo 11) (f161 F).kp (bi161 F) tk (ca_cons (ce_frz (cf_call h.k183 (hr.mono (by omega)) (F.glo 10) (f183 F).kp (bi183 F) tk (ca_cons (ce_var 1) (ca_cons (ce_int) (ca_nil))))) (ca_cons (ce_op op_addAll rd_add (ce_int) (ce_frz (cf_call h.k183 (hr.mono (by omega)) (F.glo 10) (f183 F).kp (bi183 F) tk (ca_cons (ce_var 1) (ca_cons (ce_int) (ca_nil)))))) (ca_nil)))))) hN) (css_cons (cs_if (ct_cmp (op_neD hr.units) rd_ne (ce_frz (cf_meth (ce_var 9) (C := ga K "Rhythm") rfl (F.cls 5) (F.meth 12) h.k116 (hr.mono (by omega)) (bi116 F) tk (ca_cons (ce_var 6) (ca_nil)))) (ce_frz (cf_call h.k187 (hr.mono (by omega)) (F.glo 13) (f187 F).kp (bi187 F) tk (ca_cons (ce_var 10) (ca_cons (ce_var 6) (ca_nil)))))) (css_one (cs_ret (cf_val (ce_bl)))) (css_nil)) (css_one (cs_if (ct_cmp (op_neD hr.units) rd_ne (ce_frz (cf_meth (ce_var 9) (C := ga K "Rhythm") rfl (F.cls 5) (F.meth 14) h.k117 (hr.mono (by omega)) (bi117 F) tk (ca_cons (ce_var 6) (ca_cons (ce_frz (cf_call h.k162 (hr.mono (by omega)) (F.glo 7) (f162 F).kp (bi162 F) tk (ca_cons (ce_var 6) (ca_cons (ce_tup (ca_cons (ce_int) (ca_cons (ce_int) (ca_nil)))) (ca_nil))))) (ca_nil))))) (ce_frz (cf_call h.k186 (hr.mono (by omega)) (F.glo 15) (f186 F).kp (bi186 F) tk (ca_cons (ce_var 10) (ca_cons (ce_var 6) (ca_cons (ce_frz (cf_call h.k162 (hr.mono (by omega)) (F.glo 7) (f162 F).kp (bi162 F) tk (ca_cons (ce_var 6) (ca_cons (ce_tup (ca_cons (ce_int) (ca_cons (ce_int) (ca_nil)))) (ca_nil))))) (ca_nil))))))) (css_one (cs_ret (cf_val (ce_bl)))) (css_nil))))))))))))) (css_cons (cs_set 3 (cf_val (ce_frz (cf_lst (ca_cons (ce_non) (ca_cons (ce_int) (ca_cons (ce_tup (ca_cons (ce_int) (ca_cons (ce_int) (ca_nil)))) (ca_cons (ce_tup (ca_cons (ce_un un_neg rd_neg (ce_int)) (ca_cons (ce_int) (ca_nil)))) (ca_cons (ce_tup (ca_cons (ce_int) (ca_cons (ce_int) (ca_nil)))) (ca_cons (ce_tup (ca_cons (ce_int) (ca_cons (ce_int) (ca_nil)))) (ca_cons (ce_int) (ca_cons (ce_str (s := [49])) (ca_cons (ce_tup (ca_cons (ce_int) (ca_cons (ce_int) (ca_cons (ce_int) (ca_nil))))) (ca_cons (ce_tup (ca_cons (ce_bl) (ca_cons (ce_int) (ca_nil)))) (ca_cons (ce_frz (cf_lst (ca_cons (ce_int) (ca_cons (ce_int) (ca_nil))))) (ca_nil))))))))))))))) hN) (css_cons (cs_if (ct_cmp (op_neD hr.units) rd_ne (ce_frz (cf_call h.k1 (hr.mono (by omega)) (F.glo 9) (f1 F).kp (bi1 F) tk (ca_cons (ce_ixS (ce_var 3) (ce_frz (cf_call h.k183 (hr.mono (by omega)) (F.glo 10) (f183 F).kp (bi183 F) tk (ca_cons (ce_var 1) (ca_cons (ce_lenS (F.free 6) (ce_var 3)) (ca_nil)))))) (ca_cons (ce_non) (ca_nil))))) (ce_str (s := [112, 101, 114, 105, 111, 100]))) (css_one (cs_ret (cf_val (ce_bl)))) (css_nil)) (css_cons (cs_set 3 (cf_val (ce_frz (cf_lst (ca_cons (ce_non) (ca_cons (ce_frz (cf_lst (ca_nil))) (ca_cons (ce_tup (ca_cons (ce_non) (ca_nil))) (ca_cons (ce_tup (ca_cons (ce_tup (ca_cons (ce_tup (ca_cons (ce_int) (ca_cons (ce_int) (ca_nil)))) (ca_cons (ce_str (s := [97])) (ca_nil)))) (ca_nil))) (ca_cons (ce_tup (ca_cons (ce_tup (ca_cons (ce_tup (ca_cons (ce_int) (ca_cons (ce_int) (ca_nil)))) (ca_cons (ce_str (s := [])) (ca_nil)))) (ca_nil))) (ca_cons (ce_tup (ca_cons (ce_tup (ca_cons (ce_tup (ca_cons (ce_int) (ca_cons (ce_int) (ca_nil)))) (ca_cons (ce_str (s := [98, 97])) (ca_nil)))) (ca_nil))) (ca_cons (ce_tup (ca_cons (ce_tup (ca_cons (ce_tup (ca_cons (ce_int) (ca_cons (ce_int) (ca_nil)))) (ca_cons (ce_str (s := [97, 97])) (ca_nil)))) (ca_nil))) (ca_nil))))))))))) hN) (css_cons (cs_set 3 (cf_val (ce_op op_addAll rd_add (ce_var 3) (ce_frz (cf_lst (ca_cons (ce_tup (ca_cons (ce_tup (ca_cons (ce_tup (ca_cons (ce_int) (ca_cons (ce_int) (ca_nil)))) (ca_cons (ce_str (s := [101])) (ca_nil)))) (ca_nil))) (ca_nil)))))) hN) (css_cons (cs_set 3 (cf_val (ce_op op_addAll rd_add (ce_var 3) (ce_frz (cf_lst (ca_cons (ce_tup (ca_cons (ce_tup (ca_cons (ce_tup (ca_cons (ce_int) (ca_cons (ce_int) (ca_nil)))) (ca_cons (ce_str (s := [97])) (ca_nil)))) (ca_cons (ce_tup (ca_cons (ce_tup (ca_cons (ce_int) (ca_cons (ce_int) (ca_nil)))) (ca_cons (ce_str (s := [97])) (ca_nil)))) (ca_nil)))) (ca_cons (ce_tup (ca_cons (ce_tup (ca_cons (ce_tup (ca_cons (ce_int) (ca_cons (ce_int) (ca_nil)))) (ca_cons (ce_str (s := [97])) (ca_nil)))) (ca_cons (ce_tup (ca_cons (ce_tup (ca_cons (ce_int) (ca_cons (ce_int) (ca_nil)))) (ca_cons (ce_str (s := [98])) (ca_nil)))) (ca_nil)))) (ca_cons (ce_tup (ca_cons (ce_tup (ca_cons (ce_tup (ca_cons (ce_un un_neg rd_neg (ce_int)) (ca_cons (ce_int) (ca_nil)))) (ca_cons (ce_str (s := [97])) (ca_nil)))) (ca_nil))) (ca_cons (ce_tup (ca_cons (ce_tup (ca_cons (ce_tup (ca_cons (ce_int) (ca_cons (ce_int) (ca_nil)))) (ca_cons (ce_str (s := [97])) (ca_nil)))) (ca_nil))) (ca_nil))))))))) hN) (css_cons (cs_set 3 (cf_val (ce_op op_addAll rd_add (ce_var 3) (ce_frz (cf_lst (ca_cons (ce_tup (ca_cons (ce_tup (ca_cons (ce_int) (ca_cons (ce_str (s := [97])) (ca_nil)))) (ca_nil))) (ca_cons (ce_tup (ca_cons (ce_tup (ca_cons (ce_tup (ca_cons (ce_int) (ca_cons (ce_int) (ca_nil)))) (ca_cons (ce_int) (ca_nil)))) (ca_nil))) (ca_cons (ce_str (s := [97])) (ca_cons (ce_tup (ca_cons (ce_tup (ca_cons (ce_tup (ca_cons (ce_int) (ca_cons (ce_int) (ca_nil)))) (ca_nil))) (ca_nil))) (ca_nil))))))))) hN) (css_one (cs_ret (cf_val (ce_and (ce_cmp (op_eqD hr.units) rd_eq (ce_frz (cf_call h.k1 (hr.mono (by omega)) (F.glo 9) (f1 F).kp (bi1 F) tk (ca_cons (ce_tup (ca_cons (ce_int) (ca_cons (ce_int) (ca_nil)))) (ca_cons (ce_ixS (ce_var 3) (ce_frz (cf_call h.k183 (hr.mono (by omega)) (F.glo 10) (f183 F).kp (bi183 F) tk (ca_cons (ce_var 1) (ca_cons (ce_lenS (F.free 6) (ce_var 3)) (ca_nil)))))) (ca_nil))))) (ce_str (s := [98, 101, 97, 116, 115]))) (ce_one (ce_frz (cf_neOwn (one_ok (F.more 4)) (cmp_ok (F.more 3)) rfl h.k114 (hr.mono (by omega)) (bi114 F) tk (ce_var 9) (ce_var 10)))))))))))))))
set_option linter.unusedVariables false in
theorem o184 (F : Fx fa fb ts gs w K mg) {k : Nat} (h : Hy w K mg base k) : FnOk PR w K mg base (L2.CX PR w) (3 * (k + 1)) (ga K "_law_rhythm") (fdOf K (ga K "_law_rhythm")) ["_law_row"] (spF ⟨PR, w, K, cm K⟩ (runFn T (k + 1) 184)) :=
  ok_def (j := 3 * k + 2) (fn := fn184) (f184 F) sc184 rfl rfl rfl rfl fun cdv A outer s H E hr => by
    have tk := takes_of (X := cxOf (L2.CX PR w) PR w K mg base ["_law_row", "_law_parts", "_law_many", "_law_beats_here", "_law_k", "_law_letters"] "_law_rhythm" (defScope s184) (ga K "_law_rhythm") cdv A outer s H E) rfl rfl rfl rfl
    have hp := passes_of (X := cxOf (L2.CX PR w) PR w K mg base ["_law_row", "_law_parts", "_law_many", "_law_beats_here", "_law_k", "_law_letters"] "_law_rhythm" (defScope s184) (ga K "_law_rhythm") cdv A outer s H E) rfl
    have hN := sc184.nd
    show CSs _ _ _ (b184 (runFn T k)) _
    delta b184
    exact css_cons (cs_set 1 (cf_val (ce_op op_addAll rd_add (ce_int) (ce_frz (cf_call h.k183 (hr.mono (by omega)) (F.glo 10) (f183 F).kp (bi183 F) tk (ca_cons (ce_var 0) (ca_cons (ce_int) (ca_nil))))))) hN) (css_cons (cs_set 2 (cf_val (ce_op op_addAll rd_add (ce_int) (ce_frz (cf_call h.k183 (hr.mono (by omega)) (F.glo 10) (f183 F).kp (bi183 F) tk (ca_cons (ce_var 0) (ca_cons (ce_int) (ca_nil))))))) hN) (css_cons (cs_set 3 (cf_lst (ca_nil)) hN) (css_cons (cs_for hp rfl (ci_rng1 (F.free 0) (ce_var 2)) (cg_of (cgp_name 4 hN)) (css_one (cs_if (ct_cmp (op_eqD hr.units) rd_eq (ce_frz (cf_call h.k183 (hr.mono (by omega)) (F.glo 10) (f183 F).kp (bi183 F) tk (ca_cons (ce_var 0) (ca_cons (ce_int) (ca_nil))))) (ce_int)) (css_cons (cs_set 5 (cf_val (ce_ixS (ce_frz (cf_lst (ca_cons (ce_str (s := [97])) (ca_cons (ce_str (s := [98])) (ca_cons (ce_str (s := [97, 98])) (ca_cons (ce_str (s := [99])) (ca_cons (ce_str (s := [97])) (ca_cons (ce_str (s := [97, 100])) (ca_nil))))))))) (ce_frz (cf_call h.k183 (hr.mono (by omega)) (F.glo 10) (f183 F).kp (bi183 F) tk (ca_cons (ce_var 0) (ca_cons (ce_int) (ca_nil))))))) hN) (css_one (cs_app 3 (ce_tup (ca_cons (ce_frz (cf_call h.k161 (hr.mono (by omega)) (F.glo 11) (f161 F).kp (bi161 F) tk (ca_cons (ce_var 4) (ca_cons (ce_var 1) (ca_nil))))) (ca_cons (ce_var 5) (ca_nil))))))) (css_nil)))) (css_one (cs_ret (cf_lst (ca_cons (ce_frz (cf_call h.k161 (hr.mono (by omega)) (F.glo 11) (f161 F).kp (bi161 F) tk (ca_cons (ce_var 2) (ca_cons (ce_var 1) (ca_nil))))) (ca_cons (ce_tupOwn 3 (F.free 8)) (ca_nil)))))))))
set_option linter.unusedVariables false in
theorem o111 (F : Fx fa fb ts gs w K mg) {k : Nat} (h : Hy w K mg base k) : FnOk PR w K mg base (L2.CX PR w) (3 * (k + 1)) (ma K (ga K "Rhythm") "__init__") (fdOf K (ma K (ga K "Rhythm") "__init__")) ["self", "period", "beats"] (spI ⟨PR, w, K, cm K⟩ 0 (runFn T (k + 1) 111)) :=
  ok_ini (j := 3 * k + 2) (fn := fn111) (f111 F) sc111 rfl rfl rfl rfl (by decide) fun cdv A outer s H E hr => by
    have tk := takes_of (X := cxOf (L2.CX PR w) PR w K mg base ["self", "period", "beats"] "Rhythm.__init__" (defScope s111) (ma K (ga K "Rhythm") "__init__") cdv A outer s H E) rfl rfl rfl rfl
    have hp := passes_of (X := cxOf (L2.CX PR w) PR w K mg base ["self", "period", "beats"] "Rhythm.__init__" (defScope s111) (ma K (ga K "Rhythm") "__init__") cdv A outer s H E) rfl
    have hN := sc111.nd
    show CSs _ _ _ (b111 (runFn T k)) _
    delta b111
    exact css_cons (cs_if (ct_not (ct_val (ce_frz (cf_call h.k105 (hr.mono (by omega)) (F.glo 16) (f105 F).kp (bi105 F) tk (ca_cons (ce_var 1) (ca_nil)))))) (css_one (cs_raise0 rfl tk (oex_ok (F.more 5)) (ini_ok (F.more 6)).1 (ini_ok (F.more 6)).2 (xk_InvalidPeriod F (j := 0)) (hr.mono (by omega)) (xb_InvalidPeriod F) (F.glo 17) rfl)) (css_nil)) (css_cons (cs_if (ct_w (cw_or (ct_not (ct_val (ce_isi rfl (by decide) (F.free 18) (F.free 8) (by decide +kernel) (ce_var 2)))) (cw_or1 (ct_not (ct_val (ce_frz (cf_call h.k108 (hr.mono (by omega)) (F.glo 19) (f108 F).kp (bi108 F) tk (ca_cons (ce_var 2) (ca_cons (ce_var 1) (ca_nil)))))))))) (css_one (cs_raise0 rfl tk (oex_ok (F.more 7)) (ini_ok (F.more 8)).1 (ini_ok (F.more 8)).2 (xk_InvalidBeats F (j := 0)) (hr.mono (by omega)) (xb_InvalidBeats F) (F.glo 20) rfl)) (css_nil)) (css_cons (cs_asg (ce_frz (cf_call h.k110 (hr.mono (by omega)) (F.glo 21) (f110 F).kp (bi110 F) tk (ca_cons (ce_var 1) (ca_cons (ce_var 2) (ca_nil))))) (cg_tup rfl (cgs_cons (cg_self 0 (C := ga K "Rhythm") rfl (F.cls 5) (F.noat 22)) (cgs_cons (cg_self 0 (C := ga K "Rhythm") rfl (F.cls 5) (F.noat 23)) (cgs_nil))))) (css_one (cs_self 0 (ce_callTy (call_dictN hr) rd_dict rfl (F.free 24) (by decide +kernel) (ca_cons (ce_self 0 rfl (F.cls 5) (F.noat 23)) (ca_nil))) (C := ga K "Rhythm") rfl (F.cls 5) (F.noat 25)))))
set_option linter.unusedVariables false in
theorem o185 (F : Fx fa fb ts gs w K mg) {k : Nat} (h : Hy w K mg base k) : FnOk PR w K mg base (L2.CX PR w) (3 * (k + 1)) (ga K "_law_least") (fdOf K (ga K "_law_least")) ["_law_period", "_law_beats_here"] (spF ⟨PR, w, K, cm K⟩ (runFn T (k + 1) 185)) :=
  ok_def (j := 3 * k + 2) (fn := fn185) (f185 F) sc185 rfl rfl rfl rfl fun cdv A outer s H E hr => by
    have tk := takes_of (X := cxOf (L2.CX PR w) PR w K mg base ["_law_period", "_law_beats_here", "_law_best", "_law_known", "_law_part", "_law_size", "_law_good", "_law_time", "_law_letters", "_law_later", "_law_beat"] "_law_least" (defScope s185) (ga K "_law_least") cdv A outer s H E) rfl rfl rfl rfl
    have hp := passes_of (X := cxOf (L2.CX PR w) PR w K mg base ["_law_period", "_law_beats_here", "_law_best", "_law_known", "_law_part", "_law_size", "_law_good", "_law_time", "_law_letters", "_law_later", "_law_beat"] "_law_least" (defScope s185) (ga K "_law_least") cdv A outer s H E) rfl
    have hN := sc185.nd
    show CSs _ _ _ (b185 (runFn T k)) _
    delta b185
    exact css_cons (cs_if (ct_cmp (op_eqD hr.units) rd_eq (ce_lenS (F.free 6) (ce_var 1)) (ce_int)) (css_one (cs_ret (cf_val (ce_tup (ca_cons (ce_tup (ca_cons (ce_int) (ca_cons (ce_int) (ca_nil)))) (ca_cons (ce_tup (ca_nil)) (ca_nil))))))) (css_nil)) (css_cons (cs_set 2 (cf_val (ce_tup (ca_cons (ce_var 0) (ca_cons (ce_callTy call_tupleN rd_tuple rfl (F.free 8) (by decide +kernel) (ca_cons (ce_var 1) (ca_nil))) (ca_nil))))) hN) (css_cons (cs_set 3 (cf_val (ce_callTy (call_dictN hr) rd_dict rfl (F.free 24) (by decide +kernel) (ca_cons (ce_var 1) (ca_nil)))) hN) (css_cons (cs_for hp rfl (ci_rng2 (F.free 0) (ce_int) (ce_op op_addAll rd_add (ce_lenS (F.free 6) (ce_var 1)) (ce_int))) (cg_of (cgp_name 4 hN)) (css_cons (cs_set 5 (cf_val (ce_frz (cf_call h.k163 (hr.mono (by omega)) (F.glo 26) (f163 F).kp (bi163 F) tk (ca_cons (ce_var 0) (ca_cons (ce_tup (ca_cons (ce_int) (ca_cons (ce_var 4) (ca_nil)))) (ca_nil)))))) hN) (css_cons (cs_set 6 (cf_val (ce_bl)) hN) (css_cons (cs_for hp rfl (ci_any (ce_var 1)) (cg_of (cgp_tup rfl (cgps_cons (cgp_name 7 hN) (cgps_cons (cgp_name 8 hN) (cgps_nil))))) (css_cons (cs_set 9 (cf_val (ce_frz (cf_call h.k162 (hr.mono (by omega)) (F.glo 7) (f162 F).kp (bi162 F) tk (ca_cons (ce_var 7) (ca_cons (ce_var 5) (ca_nil)))))) hN) (css_cons (cs_if (ct_not (ct_val (ce_frz (cf_call h.k164 (hr.mono (by omega)) (F.glo 27) (f164 F).kp (bi164 F) tk (ca_cons (ce_var 9) (ca_cons (ce_var 0) (ca_nil))))))) (css_one (cs_set 9 (cf_val (ce_frz (cf_call h.k162 (hr.mono (by omega)) (F.glo 7) (f162 F).kp (bi162 F) tk (ca_cons (ce_var 9) (ca_cons (ce_tup (ca_cons (ce_op op_sub rd_sub (ce_int) (ce_ixS (ce_var 0) (ce_int))) (ca_cons (ce_ixS (ce_var 0) (ce_int)) (ca_nil)))) (ca_nil)))))) hN)) (css_nil)) (css_one (cs_set 6 (cf_val (ce_and (ce_var 6) (ce_one (ce_cmp (op_eqD hr.units) rd_eq (ce_dget hr (ce_var 3) (ce_var 9) (ce_str (s := []))) (ce_var 8))))) hN))))) (css_one (cs_if (ct_val (ce_var 6)) (css_one (cs_set 2 (cf_val (ce_tup (ca_cons (ce_var 5) (ca_cons (ce_callTy call_tupleN rd_tuple rfl (F.free 8) (by decide +kernel) (ca_cons (ce_frz (cf_lc (own := [("_law_beat", 10)]) rfl hN (ci_any (ce_var 1)) (BlkOk.mk (N := ["_law_period", "_law_beats_here", "_law_best", "_law_known", "_law_part", "_law_size", "_law_good", "_law_time", "_law_letters", "_law_later", "_law_beat"]) (sc := defScope s185) rfl (by decide +kernel) (by decide +kernel) (by decide +kernel) (by decide +kernel)) (by decide +kernel) (fun _ _ _ _ _ => cgp_name 10 hN) (fun _ _ _ _ _ => cts_one (ct_val (ce_frz (cf_call h.k164 (hr.mono (by omega)) (F.glo 27) (f164 F).kp (bi164 F) takes0 (ca_cons (ce_ixS (ce_var 10) (ce_int)) (ca_cons (ce_var 5) (ca_nil))))))) (fun _ _ _ _ _ => ce_var 10))) (ca_nil))) (ca_nil))))) hN)) (css_nil))))))) (css_one (cs_ret (cf_val (ce_var 2)))))))
set_option linter.unusedVariables false in
theorem o112 (F : Fx fa fb ts gs w K mg) {k : Nat} (h : Hy w K mg base k) : FnOk PR w K mg base (L2.CX PR w) (3 * (k + 1)) (gAd "Rhythm" "period" K) (fdOf K (gAd "Rhythm" "period" K)) ["self"] (spF ⟨PR, w, K, cm K⟩ (runFn T (k + 1) 112)) :=
  ok_def (j := 3 * k + 2) (fn := fn112) (f112 F) sc112 rfl rfl rfl rfl fun cdv A outer s H E hr => by
    have tk := takes_of (X := cxOf (L2.CX PR w) PR w K mg base ["self"] "Rhythm.period" (defScope s112) (gAd "Rhythm" "period" K) cdv A outer s H E) rfl rfl rfl rfl
    have hp := passes_of (X := cxOf (L2.CX PR w) PR w K mg base ["self"] "Rhythm.period" (defScope s112) (gAd "Rhythm" "period" K) cdv A outer s H E) rfl
    have hN := sc112.nd
    show CSs _ _ _ (b112 (runFn T k)) _
    delta b112
    exact css_one (cs_ret (cf_val (ce_attr (ce_var 0) (C := ga K "Rhythm") rfl (F.cls 5) (F.noat 22))))
set_option linter.unusedVariables false in
theorem o113 (F : Fx fa fb ts gs w K mg) {k : Nat} (h : Hy w K mg base k) : FnOk PR w K mg base (L2.CX PR w) (3 * (k + 1)) (gAd "Rhythm" "beats" K) (fdOf K (gAd "Rhythm" "beats" K)) ["self"] (spF ⟨PR, w, K, cm K⟩ (runFn T (k + 1) 113)) :=
  ok_def (j := 3 * k + 2) (fn := fn113) (f113 F) sc113 rfl rfl rfl rfl fun cdv A outer s H E hr => by
    have tk := takes_of (X := cxOf (L2.CX PR w) PR w K mg base ["self"] "Rhythm.beats" (defScope s113) (gAd "Rhythm" "beats" K) cdv A outer s H E) rfl rfl rfl rfl
    have hp := passes_of (X := cxOf (L2.CX PR w) PR w K mg base ["self"] "Rhythm.beats" (defScope s113) (gAd "Rhythm" "beats" K) cdv A outer s H E) rfl
    have hN := sc113.nd
    show CSs _ _ _ (b113 (runFn T k)) _
    delta b113
    exact css_one (cs_ret (cf_val (ce_attr (ce_var 0) (C := ga K "Rhythm") rfl (F.cls 5) (F.noat 23))))
set_option linter.unusedVariables false in
theorem o115 (F : Fx fa fb ts gs w K mg) {k : Nat} (h : Hy w K mg base k) : FnOk PR w K mg base (L2.CX PR w) (3 * (k + 1)) (ma K (ga K "Rhythm") "__len__") (fdOf K (ma K (ga K "Rhythm") "__len__")) ["self"] (spF ⟨PR, w, K, cm K⟩ (runFn T (k + 1) 115)) :=
  ok_def (j := 3 * k + 2) (fn := fn115) (f115 F) sc115 rfl rfl rfl rfl fun cdv A outer s H E hr => by
    have tk := takes_of (X := cxOf (L2.CX PR w) PR w K mg base ["self"] "Rhythm.__len__" (defScope s115) (ma K (ga K "Rhythm") "__len__") cdv A outer s H E) rfl rfl rfl rfl
    have hp := passes_of (X := cxOf (L2.CX PR w) PR w K mg base ["self"] "Rhythm.__len__" (defScope s115) (ma K (ga K "Rhythm") "__len__") cdv A outer s H E) rfl
    have hN := sc115.nd
    show CSs _ _ _ (b115 (runFn T k)) _
    delta b115
    exact css_one (cs_ret (cf_val (ce_lenS (F.free 6) (ce_attr (ce_var 0) (C := ga K "Rhythm") rfl (F.cls 5) (F.noat 23)))))
set_option linter.unusedVariables false in
theorem o162 (F : Fx fa fb ts gs w K mg) {k : Nat} (h : Hy w K mg base k) : FnOk PR w K mg base (L2.CX PR w) (3 * (k + 1)) (ga K "_law_sum") (fdOf K (ga K "_law_sum")) ["_law_one", "_law_mate"] (spF ⟨PR, w, K, cm K⟩ (runFn T (k + 1) 162)) :=
  ok_def (j := 3 * k + 2) (fn := fn162) (f162 F) sc162 rfl rfl rfl rfl fun cdv A outer s H E hr => by
    have tk := takes_of (X := cxOf (L2.CX PR w) PR w K mg base ["_law_one", "_law_mate"] "_law_sum" (defScope s162) (ga K "_law_sum") cdv A outer s H E) rfl rfl rfl rfl
    have hp := passes_of (X := cxOf (L2.CX PR w) PR w K mg base ["_law_one", "_law_mate"] "_law_sum" (defScope s162) (ga K "_law_sum") cdv A outer s H E) rfl
    have hN := sc162.nd
    show CSs _ _ _ (b162 (runFn T k)) _
    delta b162
    exact css_one (cs_ret (cf_call h.k161 (hr.mono (by omega)) (F.glo 11) (f161 F).kp (bi161 F) tk (ca_cons (ce_op op_addAll rd_add (ce_op op_mulAll rd_mul (ce_ixS (ce_var 0) (ce_int)) (ce_ixS (ce_var 1) (ce_int))) (ce_op op_mulAll rd_mul (ce_ixS (ce_var 1) (ce_int)) (ce_ixS (ce_var 0) (ce_int)))) (ca_cons (ce_op op_mulAll rd_mul (ce_ixS (ce_var 0) (ce_int)) (ce_ixS (ce_var 1) (ce_int))) (ca_nil)))))
set_option linter.unusedVariables false in
theorem o114 (F : Fx fa fb ts gs w K mg) {k : Nat} (h : Hy w K mg base k) : FnOk PR w K mg base (L2.CX PR w) (3 * (k + 1)) (ma K (ga K "Rhythm") "__eq__") (fdOf K (ma K (ga K "Rhythm") "__eq__")) ["self", "other"] (spF ⟨PR, w, K, cm K⟩ (runFn T (k + 1) 114)) :=
  ok_def (j := 3 * k + 2) (fn := fn114) (f114 F) sc114 rfl rfl rfl rfl fun cdv A outer s H E hr => by
    have tk := takes_of (X := cxOf (L2.CX PR w) PR w K mg base ["self", "other"] "Rhythm.__eq__" (defScope s114) (ma K (ga K "Rhythm") "__eq__") cdv A outer s H E) rfl rfl rfl rfl
    have hp := passes_of (X := cxOf (L2.CX PR w) PR w K mg base ["self", "other"] "Rhythm.__eq__" (defScope s114) (ma K (ga K "Rhythm") "__eq__") cdv A outer s H E) rfl
    have hN := sc114.nd
    show CSs _ _ _ (b114 (runFn T k)) _
    delta b114
    exact css_one (cs_ret (cf_val (ce_and (ce_isiOwn (isi_ok (F.more 9)) (F.cls 5) rfl (F.glo 3) (F.free 18) (ce_var 1)) (ce_and (ce_cmp (op_eqD hr.units) rd_eq (ce_attr (ce_var 0) (C := ga K "Rhythm") rfl (F.cls 5) (F.noat 22)) (ce_attr (ce_var 1) (C := ga K "Rhythm") rfl (F.cls 5) (F.noat 22))) (ce_one (ce_cmp (op_eqD hr.units) rd_eq (ce_attr (ce_var 0) (C := ga K "Rhythm") rfl (F.cls 5) (F.noat 23)) (ce_attr (ce_var 1) (C := ga K "Rhythm") rfl (F.cls 5) (F.noat 23))))))))
set_option linter.unusedVariables false in
theorem o1 (F : Fx fa fb ts gs w K mg) {k : Nat} (h : Hy w K mg base k) : FnOk PR w K mg base (L2.CX PR w) (3 * (k + 1)) (ga K "_law_refused") (fdOf K (ga K "_law_refused")) ["_law_period", "_law_beats_here"] (spF ⟨PR, w, K, cm K⟩ (runFn T (k + 1) 1)) :=
  ok_def (j := 3 * k + 2) (fn := fn1) (f1 F) sc1 rfl rfl rfl rfl fun cdv A outer s H E hr => by
    have tk := takes_of (X := cxOf (L2.CX PR w) PR w K mg base ["_law_period", "_law_beats_here", "_law_told"] "_law_refused" (defScope s1) (ga K "_law_refused") cdv A outer s H E) rfl rfl rfl rfl
    have hp := passes_of (X := cxOf (L2.CX PR w) PR w K mg base ["_law_period", "_law_beats_here", "_law_told"] "_law_refused" (defScope s1) (ga K "_law_refused") cdv A outer s H E) rfl
    have hN := sc1.nd
    show CSs _ _ _ (b1 (runFn T k)) _
    delta b1
    exact css_cons (cs_set 2 (cf_val (ce_non)) hN) (css_cons (cs_try rfl rfl tk (fun W1 pn1 xe1 tk1 hp1 => css_one (cs_drop (ce_frz (cf_make (F.mkr 2) h.k111 (hr.mono (by omega)) (F.glo 3) rfl (bi111 F) tk1 (ca_cons (ce_var 0) (ca_cons (ce_var 1) (ca_nil))))))) (Clauses.cons ⟨rfl, rfl, .inl (F.glo 17)⟩ (catch_InvalidPeriod F) (fun _ _ _ _ _ _ _ => css_one (cs_set 2 (cf_val (ce_str (s := [112, 101, 114, 105, 111, 100]))) hN)) (Clauses.cons ⟨rfl, rfl, .inl (F.glo 20)⟩ (catch_InvalidBeats F) (fun _ _ _ _ _ _ _ => css_one (cs_set 2 (cf_val (ce_str (s := [98, 101, 97, 116, 115]))) hN)) .nil))) (css_one (cs_ret (cf_val (ce_var 2)))))
set_option linter.unusedVariables false in
theorem o161 (F : Fx fa fb ts gs w K mg) {k : Nat} (h : Hy w K mg base k) : FnOk PR w K mg base (L2.CX PR w) (3 * (k + 1)) (ga K "_law_frac") (fdOf K (ga K "_law_frac")) ["_law_number", "_law_parts"] (spF ⟨PR, w, K, cm K⟩ (runFn T (k + 1) 161)) :=
  ok_def (j := 3 * k + 2) (fn := fn161) (f161 F) sc161 rfl rfl rfl rfl fun cdv A outer s H E hr => by
    have tk := takes_of (X := cxOf (L2.CX PR w) PR w K mg base ["_law_number", "_law_parts", "_law_one", "_law_mate"] "_law_frac" (defScope s161) (ga K "_law_frac") cdv A outer s H E) rfl rfl rfl rfl
    have hp := passes_of (X := cxOf (L2.CX PR w) PR w K mg base ["_law_number", "_law_parts", "_law_one", "_law_mate"] "_law_frac" (defScope s161) (ga K "_law_frac") cdv A outer s H E) rfl
    have hN := sc161.nd
    show CSs _ _ _ (b161 (runFn T k)) _
    delta b161
    exact css_cons ((by first | exact cs_par 2 3 rfl hN (cf_val (ce_callB call_abs rd_abs rfl (F.free 28) PyProof.Rows.boot_abs (ca_cons (ce_var 0) (ca_nil)))) (cf_val (ce_var 1)) | exact cs_parT 2 3 rfl hN (cf_val (ce_callB call_abs rd_abs rfl (F.free 28) PyProof.Rows.boot_abs (ca_cons (ce_var 0) (ca_nil)))) (cf_val (ce_var 1)))) (css_cons (cs_while hp (ct_cmp op_gt rd_gt (ce_var 3) (ce_int)) (css_one ((by first | exact cs_par 2 3 rfl hN (cf_val (ce_var 3)) (cf_val (ce_op op_mod rd_mod (ce_var 2) (ce_var 3))) | exact cs_parT 2 3 rfl hN (cf_val (ce_var 3)) (cf_val (ce_op op_mod rd_mod (ce_var 2) (ce_var 3))))))) (css_one (cs_ret (cf_val (ce_tup (ca_cons (ce_op op_fdivW rd_div (ce_var 0) (ce_var 2)) (ca_cons (ce_op op_fdivW rd_div (ce_var 1) (ce_var 2)) (ca_nil))))))))
set_option linter.unusedVariables false in
theorem o183 (F : Fx fa fb ts gs w K mg) {k : Nat} (h : Hy w K mg base k) : FnOk PR w K mg base (L2.CX PR w) (3 * (k + 1)) (ga K "_law_taken") (fdOf K (ga K "_law_taken")) ["_law_row", "_law_many"] (spF ⟨PR, w, K, cm K⟩ (runFn T (k + 1) 183)) :=
  ok_def (j := 3 * k + 2) (fn := fn183) (f183 F) sc183 rfl rfl rfl rfl fun cdv A outer s H E hr => by
    have tk := takes_of (X := cxOf (L2.CX PR w) PR w K mg base ["_law_row", "_law_many", "_law_cell", "_law_found"] "_law_taken" (defScope s183) (ga K "_law_taken") cdv A outer s H E) rfl rfl rfl rfl
    have hp := passes_of (X := cxOf (L2.CX PR w) PR w K mg base ["_law_row", "_law_many", "_law_cell", "_law_found"] "_law_taken" (defScope s183) (ga K "_law_taken") cdv A outer s H E) rfl
    have hN := sc183.nd
    show CSs _ _ _ (b183 (runFn T k)) _
    delta b183
    exact css_cons (cs_if (ct_cmp op_gt rd_gt (ce_ixS (ce_var 0) (ce_int)) (ce_int)) (css_cons (cs_set 3 (cf_val (ce_op op_mod rd_mod (ce_callTy call_intA rd_int rfl (F.free 29) (by decide +kernel) (ca_cons (ce_ixS (ce_var 0) (ce_int)) (ca_nil))) (ce_var 1))) hN) (css_cons (cs_setIxL (ce_op op_fdivW rd_div (ce_ixS (ce_var 0) (ce_int)) (ce_var 1)) (ce_var 0) (ce_int)) (css_one (cs_ret (cf_val (ce_var 3)))))) (css_nil)) (css_cons (cs_setIxL (ce_op op_addAll rd_add (ce_ixS (ce_var 0) (ce_int)) (ce_int)) (ce_var 0) (ce_int)) (css_cons (cs_if (ct_cmp op_gt rd_gt (ce_ixS (ce_var 0) (ce_int)) (ce_lenS (F.free 6) (ce_ixS (ce_var 0) (ce_int)))) (css_cons (cs_setIxL (ce_op op_mod rd_mod (ce_callTy call_intA rd_int rfl (F.free 29) (by decide +kernel) (ca_cons (ce_op op_addAll rd_add (ce_op op_mulAll rd_mul (ce_ixS (ce_var 0) (ce_int)) (ce_int)) (ce_int)) (ca_nil))) (ce_int)) (ce_var 0) (ce_int)) (css_one (cs_ret (cf_val (ce_op op_mod rd_mod (ce_callTy call_intA rd_int rfl (F.free 29) (by decide +kernel) (ca_cons (ce_op op_fdivW rd_div (ce_ixS (ce_var 0) (ce_int)) (ce_int)) (ca_nil))) (ce_var 1)))))) (css_nil)) (css_cons (cs_set 2 (cf_val (ce_ixS (ce_ixS (ce_var 0) (ce_int)) (ce_op op_sub rd_sub (ce_ixS (ce_var 0) (ce_int)) (ce_int)))) hN) (css_cons (cs_setIxL (ce_op op_mod rd_mod (ce_callTy call_intA rd_int rfl (F.free 29) (by decide +kernel) (ca_cons (ce_op op_addAll rd_add (ce_op op_addAll rd_add (ce_op op_mulAll rd_mul (ce_ixS (ce_var 0) (ce_int)) (ce_int)) (ce_var 2)) (ce_int)) (ca_nil))) (ce_int)) (ce_var 0) (ce_int)) (css_cons (cs_if (ct_cmp op_ge rd_ge (ce_var 2) (ce_op op_pow rd_pow (ce_int) (ce_int))) (css_one (cs_setIxL (ce_op op_fdivW rd_div (ce_var 2) (ce_var 1)) (ce_var 0) (ce_int))) (css_nil)) (css_one (cs_ret (cf_val (ce_op op_mod rd_mod (ce_callTy call_intA rd_int rfl (F.free 29) (by decide +kernel) (ca_cons (ce_var 2) (ca_nil))) (ce_var 1))))))))))
set_option linter.unusedVariables false in
theorem o116 (F : Fx fa fb ts gs w K mg) {k : Nat} (h : Hy w K mg base k) : FnOk PR w K mg base (L2.CX PR w) (3 * (k + 1)) (ma K (ga K "Rhythm") "sound") (fdOf K (ma K (ga K "Rhythm") "sound")) ["self", "time"] (spF ⟨PR, w, K, cm K⟩ (runFn T (k + 1) 116)) :=
  ok_def (j := 3 * k + 2) (fn := fn116) (f116 F) sc116 rfl rfl rfl rfl fun cdv A outer s H E hr => by
    have tk := takes_of (X := cxOf (L2.CX PR w) PR w K mg base ["self", "time"] "Rhythm.sound" (defScope s116) (ma K (ga K "Rhythm") "sound") cdv A outer s H E) rfl rfl rfl rfl
    have hp := passes_of (X := cxOf (L2.CX PR w) PR w K mg base ["self", "time"] "Rhythm.sound" (defScope s116) (ma K (ga K "Rhythm") "sound") cdv A outer s H E) rfl
    have hN := sc116.nd
    show CSs _ _ _ (b116 (runFn T k)) _
    delta b116
    exact css_one (cs_ret (cf_val (ce_dget hr (ce_attr (ce_var 0) (C := ga K "Rhythm") rfl (F.cls 5) (F.noat 25)) (ce_frz (cf_call h.k77 (hr.mono (by omega)) (F.glo 30) (f77 F).kp (bi77 F) tk (ca_cons (ce_var 1) (ca_cons (ce_attr (ce_var 0) (C := ga K "Rhythm") rfl (F.cls 5) (F.noat 22)) (ca_nil))))) (ce_str (s := [])))))
set_option linter.unusedVariables false in
theorem o187 (F : Fx fa fb ts gs w K mg) {k : Nat} (h : Hy w K mg base k) : FnOk PR w K mg base (L2.CX PR w) (3 * (k + 1)) (ga K "_law_sound") (fdOf K (ga K "_law_sound")) ["_law_mech", "_law_time"] (spF ⟨PR, w, K, cm K⟩ (runFn T (k + 1) 187)) :=
  ok_def (j := 3 * k + 2) (fn := fn187) (f187 F) sc187 rfl rfl rfl rfl fun cdv A outer s H E hr => by
    have tk := takes_of (X := cxOf (L2.CX PR w) PR w K mg base ["_law_mech", "_law_time", "_law_size", "_law_gone", "_law_begin"] "_law_sound" (defScope s187) (ga K "_law_sound") cdv A outer s H E) rfl rfl rfl rfl
    have hp := passes_of (X := cxOf (L2.CX PR w) PR w K mg base ["_law_mech", "_law_time", "_law_size", "_law_gone", "_law_begin"] "_law_sound" (defScope s187) (ga K "_law_sound") cdv A outer s H E) rfl
    have hN := sc187.nd
    show CSs _ _ _ (b187 (runFn T k)) _
    delta b187
    exact css_cons (cs_set 2 (cf_val (ce_ixS (ce_var 0) (ce_int))) hN) (css_cons (cs_set 3 (cf_val (ce_frz (cf_call h.k163 (hr.mono (by omega)) (F.glo 26) (f163 F).kp (bi163 F) tk (ca_cons (ce_var 1) (ca_cons (ce_tup (ca_cons (ce_ixS (ce_var 2) (ce_int)) (ca_cons (ce_ixS (ce_var 2) (ce_int)) (ca_nil)))) (ca_nil)))))) hN) (css_cons (cs_set 4 (cf_val (ce_frz (cf_call h.k163 (hr.mono (by omega)) (F.glo 26) (f163 F).kp (bi163 F) tk (ca_cons (ce_var 2) (ca_cons (ce_tup (ca_cons (ce_op op_fdivW rd_div (ce_ixS (ce_var 3) (ce_int)) (ce_ixS (ce_var 3) (ce_int))) (ca_cons (ce_int) (ca_nil)))) (ca_nil)))))) hN) (css_one (cs_ret (cf_val (ce_dget hr (ce_callTy (call_dictN hr) rd_dict rfl (F.free 24) (by decide +kernel) (ca_cons (ce_frz (cf_list (F.free 31) (ce_ixS (ce_var 0) (ce_int)))) (ca_nil))) (ce_frz (cf_call h.k162 (hr.mono (by omega)) (F.glo 7) (f162 F).kp (bi162 F) tk (ca_cons (ce_var 1) (ca_cons (ce_tup (ca_cons (ce_op op_sub rd_sub (ce_int) (ce_ixS (ce_var 4) (ce_int))) (ca_cons (ce_ixS (ce_var 4) (ce_int)) (ca_nil)))) (ca_nil))))) (ce_str (s := []))))))))
set_option linter.unusedVariables false in
theorem o117 (F : Fx fa fb ts gs w K mg) {k : Nat} (h : Hy w K mg base k) : FnOk PR w K mg base (L2.CX PR w) (3 * (k + 1)) (ma K (ga K "Rhythm") "between") (fdOf K (ma K (ga K "Rhythm") "between")) ["self", "start", "end"] (spF ⟨PR, w, K, cm K⟩ (runFn T (k + 1) 117)) :=
  ok_def (j := 3 * k + 2) (fn := fn117) (f117 F) sc117 rfl rfl rfl rfl fun cdv A outer s H E hr => by
    have tk := takes_of (X := cxOf (L2.CX PR w) PR w K mg base ["self", "start", "end", "found", "turn", "begin", "time", "letters", "here"] "Rhythm.between" (defScope s117) (ma K (ga K "Rhythm") "between") cdv A outer s H E) rfl rfl rfl rfl
    have hp := passes_of (X := cxOf (L2.CX PR w) PR w K mg base ["self", "start", "end", "found", "turn", "begin", "time", "letters", "here"] "Rhythm.between" (defScope s117) (ma K (ga K "Rhythm") "between") cdv A outer s H E) rfl
    have hN := sc117.nd
    show CSs _ _ _ (b117 (runFn T k)) _
    delta b117
    exact css_cons (cs_set 3 (cf_lst (ca_nil)) hN) (css_cons (cs_for hp rfl (ci_rng2 (F.free 0) (ce_frz (cf_call h.k74 (hr.mono (by omega)) (F.glo 33) (f74 F).kp (bi74 F) tk (ca_cons (ce_frz (cf_call h.k72 (hr.mono (by omega)) (F.glo 32) (f72 F).kp (bi72 F) tk (ca_cons (ce_var 1) (ca_cons (ce_attr (ce_var 0) (C := ga K "Rhythm") rfl (F.cls 5) (F.noat 22)) (ca_nil))))) (ca_nil)))) (ce_frz (cf_call h.k75 (hr.mono (by omega)) (F.glo 34) (f75 F).kp (bi75 F) tk (ca_cons (ce_frz (cf_call h.k72 (hr.mono (by omega)) (F.glo 32) (f72 F).kp (bi72 F) tk (ca_cons (ce_var 2) (ca_cons (ce_attr (ce_var 0) (C := ga K "Rhythm") rfl (F.cls 5) (F.noat 22)) (ca_nil))))) (ca_nil))))) (cg_of (cgp_name 4 hN)) (css_cons (cs_set 5 (cf_val (ce_frz (cf_call h.k71 (hr.mono (by omega)) (F.glo 35) (f71 F).kp (bi71 F) tk (ca_cons (ce_attr (ce_var 0) (C := ga K "Rhythm") rfl (F.cls 5) (F.noat 22)) (ca_cons (ce_tup (ca_cons (ce_var 4) (ca_cons (ce_int) (ca_nil)))) (ca_nil)))))) hN) (css_one (cs_for hp rfl (ci_any (ce_attr (ce_var 0) (C := ga K "Rhythm") rfl (F.cls 5) (F.noat 23))) (cg_of (cgp_tup rfl (cgps_cons (cgp_name 6 hN) (cgps_cons (cgp_name 7 hN) (cgps_nil))))) (css_cons (cs_set 8 (cf_val (ce_frz (cf_call h.k69 (hr.mono (by omega)) (F.glo 36) (f69 F).kp (bi69 F) tk (ca_cons (ce_var 5) (ca_cons (ce_var 6) (ca_nil)))))) hN) (css_one (cs_if (ct_w (cw_and (ct_not (ct_val (ce_frz (cf_call h.k73 (hr.mono (by omega)) (F.glo 37) (f73 F).kp (bi73 F) tk (ca_cons (ce_var 8) (ca_cons (ce_var 1) (ca_nil))))))) (cw_and1 (ct_val (ce_frz (cf_call h.k73 (hr.mono (by omega)) (F.glo 37) (f73 F).kp (bi73 F) tk (ca_cons (ce_var 8) (ca_cons (ce_var 2) (ca_nil))))))))) (css_one (cs_app 3 (ce_tup (ca_cons (ce_var 8) (ca_cons (ce_var 7) (ca_nil)))))) (css_nil)))))))) (css_one (cs_retV 3)))
set_option linter.unusedVariables false in
theorem o186 (F : Fx fa fb ts gs w K mg) {k : Nat} (h : Hy w K mg base k) : FnOk PR w K mg base (L2.CX PR w) (3 * (k + 1)) (ga K "_law_between") (fdOf K (ga K "_law_between")) ["_law_mech", "_law_start", "_law_end"] (spF ⟨PR, w, K, cm K⟩ (runFn T (k + 1) 186)) :=
  ok_def (j := 3 * k + 2) (fn := fn186) (f186 F) sc186 rfl rfl rfl rfl fun cdv A outer s H E hr => by
    have tk := takes_of (X := cxOf (L2.CX PR w) PR w K mg base ["_law_mech", "_law_start", "_law_end", "_law_found", "_law_size", "_law_first", "_law_k", "_law_time", "_law_letters", "_law_here"] "_law_between" (defScope s186) (ga K "_law_between") cdv A outer s H E) rfl rfl rfl rfl
    have hp := passes_of (X := cxOf (L2.CX PR w) PR w K mg base ["_law_mech", "_law_start", "_law_end", "_law_found", "_law_size", "_law_first", "_law_k", "_law_time", "_law_letters", "_law_here"] "_law_between" (defScope s186) (ga K "_law_between") cdv A outer s H E) rfl
    have hN := sc186.nd
    show CSs _ _ _ (b186 (runFn T k)) _
    delta b186
    exact css_cons (cs_set 3 (cf_lst (ca_nil)) hN) (css_cons (cs_set 4 (cf_val (ce_ixS (ce_var 0) (ce_int))) hN) (css_cons (cs_set 5 (cf_val (ce_frz (cf_call h.k163 (hr.mono (by omega)) (F.glo 26) (f163 F).kp (bi163 F) tk (ca_cons (ce_var 1) (ca_cons (ce_tup (ca_cons (ce_ixS (ce_var 4) (ce_int)) (ca_cons (ce_ixS (ce_var 4) (ce_int)) (ca_nil)))) (ca_nil)))))) hN) (css_cons (cs_set 6 (cf_val (ce_op op_fdivW rd_div (ce_ixS (ce_var 5) (ce_int)) (ce_ixS (ce_var 5) (ce_int)))) hN) (css_cons (cs_while hp (ct_val (ce_frz (cf_call h.k164 (hr.mono (by omega)) (F.glo 27) (f164 F).kp (bi164 F) tk (ca_cons (ce_frz (cf_call h.k163 (hr.mono (by omega)) (F.glo 26) (f163 F).kp (bi163 F) tk (ca_cons (ce_var 4) (ca_cons (ce_tup (ca_cons (ce_var 6) (ca_cons (ce_int) (ca_nil)))) (ca_nil))))) (ca_cons (ce_var 2) (ca_nil)))))) (css_cons (cs_for hp rfl (ci_any (ce_ixS (ce_var 0) (ce_int))) (cg_of (cgp_tup rfl (cgps_cons (cgp_name 7 hN) (cgps_cons (cgp_name 8 hN) (cgps_nil))))) (css_cons (cs_set 9 (cf_val (ce_frz (cf_call h.k162 (hr.mono (by omega)) (F.glo 7) (f162 F).kp (bi162 F) tk (ca_cons (ce_frz (cf_call h.k163 (hr.mono (by omega)) (F.glo 26) (f163 F).kp (bi163 F) tk (ca_cons (ce_var 4) (ca_cons (ce_tup (ca_cons (ce_var 6) (ca_cons (ce_int) (ca_nil)))) (ca_nil))))) (ca_cons (ce_var 7) (ca_nil)))))) hN) (css_one (cs_if (ct_w (cw_and (ct_not (ct_val (ce_frz (cf_call h.k164 (hr.mono (by omega)) (F.glo 27) (f164 F).kp (bi164 F) tk (ca_cons (ce_var 9) (ca_cons (ce_var 1) (ca_nil))))))) (cw_and1 (ct_val (ce_frz (cf_call h.k164 (hr.mono (by omega)) (F.glo 27) (f164 F).kp (bi164 F) tk (ca_cons (ce_var 9) (ca_cons (ce_var 2) (ca_nil))))))))) (css_one (cs_app 3 (ce_tup (ca_cons (ce_var 9) (ca_cons (ce_var 8) (ca_nil)))))) (css_nil))))) (css_one (cs_set 6 (cf_val (ce_op op_addAll rd_add (ce_var 6) (ce_int))) hN)))) (css_one (cs_retV 3))))))
set_option linter.unusedVariables false in
theorem o105 (F : Fx fa fb ts gs w K mg) {k : Nat} (h : Hy w K mg base k) : FnOk PR w K mg base (L2.CX PR w) (3 * (k + 1)) (ga K "is_time") (fdOf K (ga K "is_time")) ["value"] (spF ⟨PR, w, K, cm K⟩ (runFn T (k + 1) 105)) :=
  ok_def (j := 3 * k + 2) (fn := fn105) (f105 F) sc105 rfl rfl rfl rfl fun cdv A outer s H E hr => by
    have tk := takes_of (X := cxOf (L2.CX PR w) PR w K mg base ["value"] "is_time" (defScope s105) (ga K "is_time") cdv A outer s H E) rfl rfl rfl rfl
    have hp := passes_of (X := cxOf (L2.CX PR w) PR w K mg base ["value"] "is_time" (defScope s105) (ga K "is_time") cdv A outer s H E) rfl
    have hN := sc105.nd
    show CSs _ _ _ (b105 (runFn T k)) _
    delta b105
    exact css_one (cs_ret (cf_val (ce_and (ce_frz (cf_call h.k68 (hr.mono (by omega)) (F.glo 38) (f68 F).kp (bi68 F) tk (ca_cons (ce_var 0) (ca_nil)))) (ce_one (ce_cmp op_gt rd_gt (ce_ixS (ce_var 0) (ce_int)) (ce_int))))))
set_option linter.unusedVariables false in
theorem o108 (F : Fx fa fb ts gs w K mg) {k : Nat} (h : Hy w K mg base k) : FnOk PR w K mg base (L2.CX PR w) (3 * (k + 1)) (ga K "are_beats") (fdOf K (ga K "are_beats")) ["value", "end"] (spF ⟨PR, w, K, cm K⟩ (runFn T (k + 1) 108)) :=
  ok_def (j := 3 * k + 2) (fn := fn108) (f108 F) sc108 rfl rfl rfl rfl fun cdv A outer s H E hr => by
    have tk := takes_of (X := cxOf (L2.CX PR w) PR w K mg base ["value", "end", "beat", "one", "other"] "are_beats" (defScope s108) (ga K "are_beats") cdv A outer s H E) rfl rfl rfl rfl
    have hp := passes_of (X := cxOf (L2.CX PR w) PR w K mg base ["value", "end", "beat", "one", "other"] "are_beats" (defScope s108) (ga K "are_beats") cdv A outer s H E) rfl
    have hN := sc108.nd
    show CSs _ _ _ (b108 (runFn T k)) _
    delta b108
    exact css_cons (cs_if (ct_not (ct_val (ce_callB (cr_all rfl) rd_all rfl (F.free 40) PyProof.Rows.boot_all (ca_cons (ce_frz (cf_lc (own := [("beat", 2)]) rfl hN (ci_any (ce_var 0)) (BlkOk.mk (N := ["value", "end", "beat", "one", "other"]) (sc := defScope s108) rfl (by decide +kernel) (by decide +kernel) (by decide +kernel) (by decide +kernel)) (by decide +kernel) (fun _ _ _ _ _ => cgp_name 2 hN) (fun _ _ _ _ _ => cts_nil) (fun _ _ _ _ _ => ce_frz (cf_call h.k107 (hr.mono (by omega)) (F.glo 39) (f107 F).kp (bi107 F) takes0 (ca_cons (ce_var 2) (ca_nil)))))) (ca_nil))))) (css_one (cs_ret (cf_val (ce_bl)))) (css_nil)) (css_cons (cs_if (ct_not (ct_val (ce_callB (cr_all rfl) rd_all rfl (F.free 40) PyProof.Rows.boot_all (ca_cons (ce_frz (cf_lc (own := [("one", 3), ("other", 4)]) rfl hN (ci_zip (F.free 41) (ce_var 0) (ce_cutS (ce_var 0) (co_some (ce_int)) (co_none))) (BlkOk.mk (N := ["value", "end", "beat", "one", "other"]) (sc := defScope s108) rfl (by decide +kernel) (by decide +kernel) (by decide +kernel) (by decide +kernel)) (by decide +kernel) (fun _ _ _ _ _ => cgp_tup rfl (cgps_cons (cgp_name 3 hN) (cgps_cons (cgp_name 4 hN) (cgps_nil)))) (fun _ _ _ _ _ => cts_nil) (fun _ _ _ _ _ => ce_frz (cf_call h.k73 (hr.mono (by omega)) (F.glo 37) (f73 F).kp (bi73 F) takes0 (ca_cons (ce_ixS (ce_var 3) (ce_int)) (ca_cons (ce_ixS (ce_var 4) (ce_int)) (ca_nil))))))) (ca_nil))))) (css_one (cs_ret (cf_val (ce_bl)))) (css_nil)) (css_one (cs_ret (cf_val (ce_callB (cr_all rfl) rd_all rfl (F.free 40) PyProof.Rows.boot_all (ca_cons (ce_frz (cf_lc (own := [("beat", 2)]) rfl hN (ci_any (ce_var 0)) (BlkOk.mk (N := ["value", "end", "beat", "one", "other"]) (sc := defScope s108) rfl (by decide +kernel) (by decide +kernel) (by decide +kernel) (by decide +kernel)) (by decide +kernel) (fun _ _ _ _ _ => cgp_name 2 hN) (fun _ _ _ _ _ => cts_nil) (fun _ _ _ _ _ => ce_frz (cf_call h.k73 (hr.mono (by omega)) (F.glo 37) (f73 F).kp (bi73 F) takes0 (ca_cons (ce_ixS (ce_var 2) (ce_int)) (ca_cons (ce_var 1) (ca_nil))))))) (ca_nil)))))))
set_option linter.unusedVariables false in
theorem o110 (F : Fx fa fb ts gs w K mg) {k : Nat} (h : Hy w K mg base k) : FnOk PR w K mg base (L2.CX PR w) (3 * (k + 1)) (ga K "least_form") (fdOf K (ga K "least_form")) ["period", "beats"] (spF ⟨PR, w, K, cm K⟩ (runFn T (k + 1) 110)) :=
  ok_def (j := 3 * k + 2) (fn := fn110) (f110 F) sc110 rfl rfl rfl rfl fun cdv A outer s H E hr => by
    have tk := takes_of (X := cxOf (L2.CX PR w) PR w K mg base ["period", "beats", "many", "part", "size", "few"] "least_form" (defScope s110) (ga K "least_form") cdv A outer s H E) rfl rfl rfl rfl
    have hp := passes_of (X := cxOf (L2.CX PR w) PR w K mg base ["period", "beats", "many", "part", "size", "few"] "least_form" (defScope s110) (ga K "least_form") cdv A outer s H E) rfl
    have hN := sc110.nd
    show CSs _ _ _ (b110 (runFn T k)) _
    delta b110
    exact css_cons (cs_if (ct_cmp (op_eqD hr.units) rd_eq (ce_lenS (F.free 6) (ce_var 1)) (ce_int)) (css_one (cs_ret (cf_val (ce_tup (ca_cons (ce_tup (ca_cons (ce_int) (ca_cons (ce_int) (ca_nil)))) (ca_cons (ce_tup (ca_nil)) (ca_nil))))))) (css_nil)) (css_cons (cs_set 2 (cf_val (ce_lenS (F.free 6) (ce_var 1))) hN) (css_cons (cs_for hp rfl (ci_rngD (F.free 0) (ce_var 2) (ce_int)) (cg_of (cgp_name 3 hN)) (css_one (cs_if (ct_cmp (op_eqD hr.units) rd_eq (ce_op op_mulAll rd_mul (ce_op op_fdivW rd_div (ce_var 2) (ce_var 3)) (ce_var 3)) (ce_var 2)) (css_cons ((by first | exact cs_par 4 5 rfl hN (cf_val (ce_frz (cf_call h.k72 (hr.mono (by omega)) (F.glo 32) (f72 F).kp (bi72 F) tk (ca_cons (ce_var 0) (ca_cons (ce_tup (ca_cons (ce_var 3) (ca_cons (ce_int) (ca_nil)))) (ca_nil)))))) (cf_val (ce_op op_fdivW rd_div (ce_var 2) (ce_var 3))) | exact cs_parT 4 5 rfl hN (cf_val (ce_frz (cf_call h.k72 (hr.mono (by omega)) (F.glo 32) (f72 F).kp (bi72 F) tk (ca_cons (ce_var 0) (ca_cons (ce_tup (ca_cons (ce_var 3) (ca_cons (ce_int) (ca_nil)))) (ca_nil)))))) (cf_val (ce_op op_fdivW rd_div (ce_var 2) (ce_var 3))))) (css_one (cs_if (ct_w (cw_and (ct_val (ce_frz (cf_call h.k73 (hr.mono (by omega)) (F.glo 37) (f73 F).kp (bi73 F) tk (ca_cons (ce_ixS (ce_ixS (ce_var 1) (ce_op op_sub rd_sub (ce_var 5) (ce_int))) (ce_int)) (ca_cons (ce_var 4) (ca_nil)))))) (cw_and1 (ct_val (ce_frz (cf_call h.k109 (hr.mono (by omega)) (F.glo 42) (f109 F).kp (bi109 F) tk (ca_cons (ce_var 1) (ca_cons (ce_var 5) (ca_cons (ce_var 4) (ca_nil)))))))))) (css_one (cs_ret (cf_val (ce_tup (ca_cons (ce_var 4) (ca_cons (ce_callTy call_tupleN rd_tuple rfl (F.free 8) (by decide +kernel) (ca_cons (ce_cutS (ce_var 1) (co_none) (co_some (ce_var 5))) (ca_nil))) (ca_nil))))))) (css_nil)))) (css_nil)))) (css_one (cs_ret (cf_val (ce_tup (ca_cons (ce_var 0) (ca_cons (ce_callTy call_tupleN rd_tuple rfl (F.free 8) (by decide +kernel) (ca_cons (ce_var 1) (ca_nil))) (ca_nil)))))))))
set_option linter.unusedVariables false in
theorem o163 (F : Fx fa fb ts gs w K mg) {k : Nat} (h : Hy w K mg base k) : FnOk PR w K mg base (L2.CX PR w) (3 * (k + 1)) (ga K "_law_times") (fdOf K (ga K "_law_times")) ["_law_one", "_law_mate"] (spF ⟨PR, w, K, cm K⟩ (runFn T (k + 1) 163)) :=
  ok_def (j := 3 * k + 2) (fn := fn163) (f163 F) sc163 rfl rfl rfl rfl fun cdv A outer s H E hr => by
    have tk := takes_of (X := cxOf (L2.CX PR w) PR w K mg base ["_law_one", "_law_mate"] "_law_times" (defScope s163) (ga K "_law_times") cdv A outer s H E) rfl rfl rfl rfl
    have hp := passes_of (X := cxOf (L2.CX PR w) PR w K mg base ["_law_one", "_law_mate"] "_law_times" (defScope s163) (ga K "_law_times") cdv A outer s H E) rfl
    have hN := sc163.nd
    show CSs _ _ _ (b163 (runFn T k)) _
    delta b163
    exact css_one (cs_ret (cf_call h.k161 (hr.mono (by omega)) (F.glo 11) (f161 F).kp (bi161 F) tk (ca_cons (ce_op op_mulAll rd_mul (ce_ixS (ce_var 0) (ce_int)) (ce_ixS (ce_var 1) (ce_int))) (ca_cons (ce_op op_mulAll rd_mul (ce_ixS (ce_var 0) (ce_int)) (ce_ixS (ce_var 1) (ce_int))) (ca_nil)))))
set_option linter.unusedVariables false in
theorem o164 (F : Fx fa fb ts gs w K mg) {k : Nat} (h : Hy w K mg base k) : FnOk PR w K mg base (L2.CX PR w) (3 * (k + 1)) (ga K "_law_less") (fdOf K (ga K "_law_less")) ["_law_one", "_law_mate"] (spF ⟨PR, w, K, cm K⟩ (runFn T (k + 1) 164)) :=
  ok_def (j := 3 * k + 2) (fn := fn164) (f164 F) sc164 rfl rfl rfl rfl fun cdv A outer s H E hr => by
    have tk := takes_of (X := cxOf (L2.CX PR w) PR w K mg base ["_law_one", "_law_mate"] "_law_less" (defScope s164) (ga K "_law_less") cdv A outer s H E) rfl rfl rfl rfl
    have hp := passes_of (X := cxOf (L2.CX PR w) PR w K mg base ["_law_one", "_law_mate"] "_law_less" (defScope s164) (ga K "_law_less") cdv A outer s H E) rfl
    have hN := sc164.nd
    show CSs _ _ _ (b164 (runFn T k)) _
    delta b164
    exact css_one (cs_ret (cf_val (ce_cmp op_ltAll rd_lt (ce_op op_mulAll rd_mul (ce_ixS (ce_var 0) (ce_int)) (ce_ixS (ce_var 1) (ce_int))) (ce_op op_mulAll rd_mul (ce_ixS (ce_var 1) (ce_int)) (ce_ixS (ce_var 0) (ce_int))))))
set_option linter.unusedVariables false in
theorem o77 (F : Fx fa fb ts gs w K mg) {k : Nat} (h : Hy w K mg base k) : FnOk PR w K mg base (L2.CX PR w) (3 * (k + 1)) (ga K "beyond") (fdOf K (ga K "beyond")) ["one", "other"] (spF ⟨PR, w, K, cm K⟩ (runFn T (k + 1) 77)) :=
  ok_def (j := 3 * k + 2) (fn := fn77) (f77 F) sc77 rfl rfl rfl rfl fun cdv A outer s H E hr => by
    have tk := takes_of (X := cxOf (L2.CX PR w) PR w K mg base ["one", "other"] "beyond" (defScope s77) (ga K "beyond") cdv A outer s H E) rfl rfl rfl rfl
    have hp := passes_of (X := cxOf (L2.CX PR w) PR w K mg base ["one", "other"] "beyond" (defScope s77) (ga K "beyond") cdv A outer s H E) rfl
    have hN := sc77.nd
    show CSs _ _ _ (b77 (runFn T k)) _
    delta b77
    exact css_one (cs_ret (cf_call h.k70 (hr.mono (by omega)) (F.glo 43) (f70 F).kp (bi70 F) tk (ca_cons (ce_var 0) (ca_cons (ce_frz (cf_call h.k71 (hr.mono (by omega)) (F.glo 35) (f71 F).kp (bi71 F) tk (ca_cons (ce_var 1) (ca_cons (ce_tup (ca_cons (ce_frz (cf_call h.k74 (hr.mono (by omega)) (F.glo 33) (f74 F).kp (bi74 F) tk (ca_cons (ce_frz (cf_call h.k72 (hr.mono (by omega)) (F.glo 32) (f72 F).kp (bi72 F) tk (ca_cons (ce_var 0) (ca_cons (ce_var 1) (ca_nil))))) (ca_nil)))) (ca_cons (ce_int) (ca_nil)))) (ca_nil))))) (ca_nil)))))
set_option linter.unusedVariables false in
theorem o74 (F : Fx fa fb ts gs w K mg) {k : Nat} (h : Hy w K mg base k) : FnOk PR w K mg base (L2.CX PR w) (3 * (k + 1)) (ga K "floor") (fdOf K (ga K "floor")) ["one"] (spF ⟨PR, w, K, cm K⟩ (runFn T (k + 1) 74)) :=
  ok_def (j := 3 * k + 2) (fn := fn74) (f74 F) sc74 rfl rfl rfl rfl fun cdv A outer s H E hr => by
    have tk := takes_of (X := cxOf (L2.CX PR w) PR w K mg base ["one"] "floor" (defScope s74) (ga K "floor") cdv A outer s H E) rfl rfl rfl rfl
    have hp := passes_of (X := cxOf (L2.CX PR w) PR w K mg base ["one"] "floor" (defScope s74) (ga K "floor") cdv A outer s H E) rfl
    have hN := sc74.nd
    show CSs _ _ _ (b74 (runFn T k)) _
    delta b74
    exact css_one (cs_ret (cf_val (ce_op op_fdivW rd_div (ce_ixS (ce_var 0) (ce_int)) (ce_ixS (ce_var 0) (ce_int)))))
set_option linter.unusedVariables false in
theorem o72 (F : Fx fa fb ts gs w K mg) {k : Nat} (h : Hy w K mg base k) : FnOk PR w K mg base (L2.CX PR w) (3 * (k + 1)) (ga K "over") (fdOf K (ga K "over")) ["one", "other"] (spF ⟨PR, w, K, cm K⟩ (runFn T (k + 1) 72)) :=
  ok_def (j := 3 * k + 2) (fn := fn72) (f72 F) sc72 rfl rfl rfl rfl fun cdv A outer s H E hr => by
    have tk := takes_of (X := cxOf (L2.CX PR w) PR w K mg base ["one", "other"] "over" (defScope s72) (ga K "over") cdv A outer s H E) rfl rfl rfl rfl
    have hp := passes_of (X := cxOf (L2.CX PR w) PR w K mg base ["one", "other"] "over" (defScope s72) (ga K "over") cdv A outer s H E) rfl
    have hN := sc72.nd
    show CSs _ _ _ (b72 (runFn T k)) _
    delta b72
    exact css_one (cs_ret (cf_call h.k67 (hr.mono (by omega)) (F.glo 44) (f67 F).kp (bi67 F) tk (ca_cons (ce_op op_mulAll rd_mul (ce_ixS (ce_var 0) (ce_int)) (ce_ixS (ce_var 1) (ce_int))) (ca_cons (ce_op op_mulAll rd_mul (ce_ixS (ce_var 0) (ce_int)) (ce_ixS (ce_var 1) (ce_int))) (ca_nil)))))
set_option linter.unusedVariables false in
theorem o75 (F : Fx fa fb ts gs w K mg) {k : Nat} (h : Hy w K mg base k) : FnOk PR w K mg base (L2.CX PR w) (3 * (k + 1)) (ga K "ceiling") (fdOf K (ga K "ceiling")) ["one"] (spF ⟨PR, w, K, cm K⟩ (runFn T (k + 1) 75)) :=
  ok_def (j := 3 * k + 2) (fn := fn75) (f75 F) sc75 rfl rfl rfl rfl fun cdv A outer s H E hr => by
    have tk := takes_of (X := cxOf (L2.CX PR w) PR w K mg base ["one"] "ceiling" (defScope s75) (ga K "ceiling") cdv A outer s H E) rfl rfl rfl rfl
    have hp := passes_of (X := cxOf (L2.CX PR w) PR w K mg base ["one"] "ceiling" (defScope s75) (ga K "ceiling") cdv A outer s H E) rfl
    have hN := sc75.nd
    show CSs _ _ _ (b75 (runFn T k)) _
    delta b75
    exact css_one (cs_ret (cf_val (ce_un un_neg rd_neg (ce_op op_fdivW rd_div (ce_un un_neg rd_neg (ce_ixS (ce_var 0) (ce_int))) (ce_ixS (ce_var 0) (ce_int))))))
set_option linter.unusedVariables false in
theorem o71 (F : Fx fa fb ts gs w K mg) {k : Nat} (h : Hy w K mg base k) : FnOk PR w K mg base (L2.CX PR w) (3 * (k + 1)) (ga K "product") (fdOf K (ga K "product")) ["one", "other"] (spF ⟨PR, w, K, cm K⟩ (runFn T (k + 1) 71)) :=
  ok_def (j := 3 * k + 2) (fn := fn71) (f71 F) sc71 rfl rfl rfl rfl fun cdv A outer s H E hr => by
    have tk := takes_of (X := cxOf (L2.CX PR w) PR w K mg base ["one", "other"] "product" (defScope s71) (ga K "product") cdv A outer s H E) rfl rfl rfl rfl
    have hp := passes_of (X := cxOf (L2.CX PR w) PR w K mg base ["one", "other"] "product" (defScope s71) (ga K "product") cdv A outer s H E) rfl
    have hN := sc71.nd
    show CSs _ _ _ (b71 (runFn T k)) _
    delta b71
    exact css_one (cs_ret (cf_call h.k67 (hr.mono (by omega)) (F.glo 44) (f67 F).kp (bi67 F) tk (ca_cons (ce_op op_mulAll rd_mul (ce_ixS (ce_var 0) (ce_int)) (ce_ixS (ce_var 1) (ce_int))) (ca_cons (ce_op op_mulAll rd_mul (ce_ixS (ce_var 0) (ce_int)) (ce_ixS (ce_var 1) (ce_int))) (ca_nil)))))
set_option linter.unusedVariables false in
theorem o69 (F : Fx fa fb ts gs w K mg) {k : Nat} (h : Hy w K mg base k) : FnOk PR w K mg base (L2.CX PR w) (3 * (k + 1)) (ga K "added") (fdOf K (ga K "added")) ["one", "other"] (spF ⟨PR, w, K, cm K⟩ (runFn T (k + 1) 69)) :=
  ok_def (j := 3 * k + 2) (fn := fn69) (f69 F) sc69 rfl rfl rfl rfl fun cdv A outer s H E hr => by
    have tk := takes_of (X := cxOf (L2.CX PR w) PR w K mg base ["one", "other"] "added" (defScope s69) (ga K "added") cdv A outer s H E) rfl rfl rfl rfl
    have hp := passes_of (X := cxOf (L2.CX PR w) PR w K mg base ["one", "other"] "added" (defScope s69) (ga K "added") cdv A outer s H E) rfl
    have hN := sc69.nd
    show CSs _ _ _ (b69 (runFn T k)) _
    delta b69
    exact css_one (cs_ret (cf_call h.k67 (hr.mono (by omega)) (F.glo 44) (f67 F).kp (bi67 F) tk (ca_cons (ce_op op_addAll rd_add (ce_op op_mulAll rd_mul (ce_ixS (ce_var 0) (ce_int)) (ce_ixS (ce_var 1) (ce_int))) (ce_op op_mulAll rd_mul (ce_ixS (ce_var 1) (ce_int)) (ce_ixS (ce_var 0) (ce_int)))) (ca_cons (ce_op op_mulAll rd_mul (ce_ixS (ce_var 0) (ce_int)) (ce_ixS (ce_var 1) (ce_int))) (ca_nil)))))
set_option linter.unusedVariables false in
theorem o73 (F : Fx fa fb ts gs w K mg) {k : Nat} (h : Hy w K mg base k) : FnOk PR w K mg base (L2.CX PR w) (3 * (k + 1)) (ga K "is_less") (fdOf K (ga K "is_less")) ["one", "other"] (spF ⟨PR, w, K, cm K⟩ (runFn T (k + 1) 73)) :=
  ok_def (j := 3 * k + 2) (fn := fn73) (f73 F) sc73 rfl rfl rfl rfl fun cdv A outer s H E hr => by
    have tk := takes_of (X := cxOf (L2.CX PR w) PR w K mg base ["one", "other"] "is_less" (defScope s73) (ga K "is_less") cdv A outer s H E) rfl rfl rfl rfl
    have hp := passes_of (X := cxOf (L2.CX PR w) PR w K mg base ["one", "other"] "is_less" (defScope s73) (ga K "is_less") cdv A outer s H E) rfl
    have hN := sc73.nd
    show CSs _ _ _ (b73 (runFn T k)) _
    delta b73
    exact css_one (cs_ret (cf_val (ce_cmp op_ltAll rd_lt (ce_op op_mulAll rd_mul (ce_ixS (ce_var 0) (ce_int)) (ce_ixS (ce_var 1) (ce_int))) (ce_op op_mulAll rd_mul (ce_ixS (ce_var 1) (ce_int)) (ce_ixS (ce_var 0) (ce_int))))))
set_option linter.unusedVariables false in
theorem o68 (F : Fx fa fb ts gs w K mg) {k : Nat} (h : Hy w K mg base k) : FnOk PR w K mg base (L2.CX PR w) (3 * (k + 1)) (ga K "is_fraction") (fdOf K (ga K "is_fraction")) ["value"] (spF ⟨PR, w, K, cm K⟩ (runFn T (k + 1) 68)) :=
  ok_def (j := 3 * k + 2) (fn := fn68) (f68 F) sc68 rfl rfl rfl rfl fun cdv A outer s H E hr => by
    have tk := takes_of (X := cxOf (L2.CX PR w) PR w K mg base ["value"] "is_fraction" (defScope s68) (ga K "is_fraction") cdv A outer s H E) rfl rfl rfl rfl
    have hp := passes_of (X := cxOf (L2.CX PR w) PR w K mg base ["value"] "is_fraction" (defScope s68) (ga K "is_fraction") cdv A outer s H E) rfl
    have hN := sc68.nd
    show CSs _ _ _ (b68 (runFn T k)) _
    delta b68
    exact css_cons (cs_if (ct_w (cw_or (ct_not (ct_val (ce_isi rfl (by decide) (F.free 18) (F.free 8) (by decide +kernel) (ce_var 0)))) (cw_or (ct_cmp (op_neD hr.units) rd_ne (ce_lenS (F.free 6) (ce_var 0)) (ce_int)) (cw_or (ct_not (ct_val (ce_frz (cf_call h.k64 (hr.mono (by omega)) (F.glo 45) (f64 F).kp (bi64 F) tk (ca_cons (ce_ixS (ce_var 0) (ce_int)) (ca_nil)))))) (cw_or1 (ct_not (ct_val (ce_frz (cf_call h.k64 (hr.mono (by omega)) (F.glo 45) (f64 F).kp (bi64 F) tk (ca_cons (ce_ixS (ce_var 0) (ce_int)) (ca_nil))))))))))) (css_one (cs_ret (cf_val (ce_bl)))) (css_nil)) (css_one (cs_ret (cf_val (ce_and (ce_cmp op_gt rd_gt (ce_ixS (ce_var 0) (ce_int)) (ce_int)) (ce_one (ce_cmp (op_eqD hr.units) rd_eq (ce_frz (cf_call h.k65 (hr.mono (by omega)) (F.glo 46) (f65 F).kp (bi65 F) tk (ca_cons (ce_ixS (ce_var 0) (ce_int)) (ca_cons (ce_ixS (ce_var 0) (ce_int)) (ca_nil))))) (ce_int)))))))
set_option linter.unusedVariables false in
theorem o107 (F : Fx fa fb ts gs w K mg) {k : Nat} (h : Hy w K mg base k) : FnOk PR w K mg base (L2.CX PR w) (3 * (k + 1)) (ga K "is_beat") (fdOf K (ga K "is_beat")) ["value"] (spF ⟨PR, w, K, cm K⟩ (runFn T (k + 1) 107)) :=
  ok_def (j := 3 * k + 2) (fn := fn107) (f107 F) sc107 rfl rfl rfl rfl fun cdv A outer s H E hr => by
    have tk := takes_of (X := cxOf (L2.CX PR w) PR w K mg base ["value"] "is_beat" (defScope s107) (ga K "is_beat") cdv A outer s H E) rfl rfl rfl rfl
    have hp := passes_of (X := cxOf (L2.CX PR w) PR w K mg base ["value"] "is_beat" (defScope s107) (ga K "is_beat") cdv A outer s H E) rfl
    have hN := sc107.nd
    show CSs _ _ _ (b107 (runFn T k)) _
    delta b107
    exact css_cons (cs_if (ct_w (cw_or (ct_not (ct_val (ce_isi rfl (by decide) (F.free 18) (F.free 8) (by decide +kernel) (ce_var 0)))) (cw_or (ct_cmp (op_neD hr.units) rd_ne (ce_lenS (F.free 6) (ce_var 0)) (ce_int)) (cw_or1 (ct_not (ct_val (ce_frz (cf_call h.k68 (hr.mono (by omega)) (F.glo 38) (f68 F).kp (bi68 F) tk (ca_cons (ce_ixS (ce_var 0) (ce_int)) (ca_nil)))))))))) (css_one (cs_ret (cf_val (ce_bl)))) (css_nil)) (css_one (cs_ret (cf_val (ce_and (ce_cmp op_ge rd_ge (ce_ixS (ce_ixS (ce_var 0) (ce_int)) (ce_int)) (ce_int)) (ce_one (ce_frz (cf_call h.k106 (hr.mono (by omega)) (F.glo 47) (f106 F).kp (bi106 F) tk (ca_cons (ce_ixS (ce_var 0) (ce_int)) (ca_nil)))))))))
set_option linter.unusedVariables false in
theorem o109 (F : Fx fa fb ts gs w K mg) {k : Nat} (h : Hy w K mg base k) : FnOk PR w K mg base (L2.CX PR w) (3 * (k + 1)) (ga K "comes_round") (fdOf K (ga K "comes_round")) ["beats", "many", "period"] (spF ⟨PR, w, K, cm K⟩ (runFn T (k + 1) 109)) :=
  ok_def (j := 3 * k + 2) (fn := fn109) (f109 F) sc109 rfl rfl rfl rfl fun cdv A outer s H E hr => by
    have tk := takes_of (X := cxOf (L2.CX PR w) PR w K mg base ["beats", "many", "period", "at", "later", "time", "letters"] "comes_round" (defScope s109) (ga K "comes_round") cdv A outer s H E) rfl rfl rfl rfl
    have hp := passes_of (X := cxOf (L2.CX PR w) PR w K mg base ["beats", "many", "period", "at", "later", "time", "letters"] "comes_round" (defScope s109) (ga K "comes_round") cdv A outer s H E) rfl
    have hN := sc109.nd
    show CSs _ _ _ (b109 (runFn T k)) _
    delta b109
    exact css_cons (cs_for hp rfl (ci_enumT (F.free 48) (ce_cutS (ce_var 0) (co_none) (co_some (ce_un un_neg rd_neg (ce_var 1))))) (cg_of (cgp_tup rfl (cgps_cons (cgp_name 3 hN) (cgps_cons (cgp_tup rfl (cgps_cons (cgp_name 5 hN) (cgps_cons (cgp_name 6 hN) (cgps_nil)))) (cgps_nil))))) (css_cons (cs_set 4 (cf_val (ce_ixS (ce_var 0) (ce_op op_addAll rd_add (ce_var 3) (ce_var 1)))) hN) (css_one (cs_if (ct_w (cw_or (ct_cmp (op_neD hr.units) rd_ne (ce_ixS (ce_var 4) (ce_int)) (ce_var 6)) (cw_or1 (ct_cmp (op_neD hr.units) rd_ne (ce_frz (cf_call h.k70 (hr.mono (by omega)) (F.glo 43) (f70 F).kp (bi70 F) tk (ca_cons (ce_ixS (ce_var 4) (ce_int)) (ca_cons (ce_var 5) (ca_nil))))) (ce_var 2))))) (css_one (cs_ret (cf_val (ce_bl)))) (css_nil))))) (css_one (cs_ret (cf_val (ce_bl))))
set_option linter.unusedVariables false in
theorem o70 (F : Fx fa fb ts gs w K mg) {k : Nat} (h : Hy w K mg base k) : FnOk PR w K mg base (L2.CX PR w) (3 * (k + 1)) (ga K "less") (fdOf K (ga K "less")) ["one", "other"] (spF ⟨PR, w, K, cm K⟩ (runFn T (k + 1) 70)) :=
  ok_def (j := 3 * k + 2) (fn := fn70) (f70 F) sc70 rfl rfl rfl rfl fun cdv A outer s H E hr => by
    have tk := takes_of (X := cxOf (L2.CX PR w) PR w K mg base ["one", "other"] "less" (defScope s70) (ga K "less") cdv A outer s H E) rfl rfl rfl rfl
    have hp := passes_of (X := cxOf (L2.CX PR w) PR w K mg base ["one", "other"] "less" (defScope s70) (ga K "less") cdv A outer s H E) rfl
    have hN := sc70.nd
    show CSs _ _ _ (b70 (runFn T k)) _
    delta b70
    exact css_one (cs_ret (cf_call h.k67 (hr.mono (by omega)) (F.glo 44) (f67 F).kp (bi67 F) tk (ca_cons (ce_op op_sub rd_sub (ce_op op_mulAll rd_mul (ce_ixS (ce_var 0) (ce_int)) (ce_ixS (ce_var 1) (ce_int))) (ce_op op_mulAll rd_mul (ce_ixS (ce_var 1) (ce_int)) (ce_ixS (ce_var 0) (ce_int)))) (ca_cons (ce_op op_mulAll rd_mul (ce_ixS (ce_var 0) (ce_int)) (ce_ixS (ce_var 1) (ce_int))) (ca_nil)))))
set_option linter.unusedVariables false in
theorem o67 (F : Fx fa fb ts gs w K mg) {k : Nat} (h : Hy w K mg base k) : FnOk PR w K mg base (L2.CX PR w) (3 * (k + 1)) (ga K "fraction") (fdOf K (ga K "fraction")) ["number", "parts"] (spF ⟨PR, w, K, cm K⟩ (runFn T (k + 1) 67)) :=
  ok_def (j := 3 * k + 2) (fn := fn67) (f67 F) sc67 rfl rfl rfl rfl fun cdv A outer s H E hr => by
    have tk := takes_of (X := cxOf (L2.CX PR w) PR w K mg base ["number", "parts", "divisor"] "fraction" (defScope s67) (ga K "fraction") cdv A outer s H E) rfl rfl rfl rfl
    have hp := passes_of (X := cxOf (L2.CX PR w) PR w K mg base ["number", "parts", "divisor"] "fraction" (defScope s67) (ga K "fraction") cdv A outer s H E) rfl
    have hN := sc67.nd
    show CSs _ _ _ (b67 (runFn T k)) _
    delta b67
    exact css_cons (cs_if (ct_cmp op_ltAll rd_lt (ce_var 1) (ce_int)) (css_one ((by first | exact cs_par 0 1 rfl hN (cf_val (ce_un un_neg rd_neg (ce_var 0))) (cf_val (ce_un un_neg rd_neg (ce_var 1))) | exact cs_parT 0 1 rfl hN (cf_val (ce_un un_neg rd_neg (ce_var 0))) (cf_val (ce_un un_neg rd_neg (ce_var 1)))))) (css_nil)) (css_cons (cs_set 2 (cf_val (ce_frz (cf_call h.k65 (hr.mono (by omega)) (F.glo 46) (f65 F).kp (bi65 F) tk (ca_cons (ce_var 0) (ca_cons (ce_var 1) (ca_nil)))))) hN) (css_one (cs_ret (cf_val (ce_tup (ca_cons (ce_op op_fdivW rd_div (ce_var 0) (ce_var 2)) (ca_cons (ce_op op_fdivW rd_div (ce_var 1) (ce_var 2)) (ca_nil))))))))
set_option linter.unusedVariables false in
theorem o64 (F : Fx fa fb ts gs w K mg) {k : Nat} (h : Hy w K mg base k) : FnOk PR w K mg base (L2.CX PR w) (3 * (k + 1)) (ga K "is_whole") (fdOf K (ga K "is_whole")) ["value"] (spF ⟨PR, w, K, cm K⟩ (runFn T (k + 1) 64)) :=
  ok_def (j := 3 * k + 2) (fn := fn64) (f64 F) sc64 rfl rfl rfl rfl fun cdv A outer s H E hr => by
    have tk := takes_of (X := cxOf (L2.CX PR w) PR w K mg base ["value"] "is_whole" (defScope s64) (ga K "is_whole") cdv A outer s H E) rfl rfl rfl rfl
    have hp := passes_of (X := cxOf (L2.CX PR w) PR w K mg base ["value"] "is_whole" (defScope s64) (ga K "is_whole") cdv A outer s H E) rfl
    have hN := sc64.nd
    show CSs _ _ _ (b64 (runFn T k)) _
    delta b64
    exact css_one (cs_ret (cf_val (ce_and (ce_isi rfl (by decide) (F.free 18) (F.free 29) (by decide +kernel) (ce_var 0)) (ce_one (ce_not (ce_isi rfl (by decide) (F.free 18) (F.free 49) (by decide +kernel) (ce_var 0)))))))
set_option linter.unusedVariables false in
theorem o65 (F : Fx fa fb ts gs w K mg) {k : Nat} (h : Hy w K mg base k) : FnOk PR w K mg base (L2.CX PR w) (3 * (k + 1)) (ga K "common") (fdOf K (ga K "common")) ["one", "other"] (spF ⟨PR, w, K, cm K⟩ (runFn T (k + 1) 65)) :=
  ok_def (j := 3 * k + 2) (fn := fn65) (f65 F) sc65 rfl rfl rfl rfl fun cdv A outer s H E hr => by
    have tk := takes_of (X := cxOf (L2.CX PR w) PR w K mg base ["one", "other"] "common" (defScope s65) (ga K "common") cdv A outer s H E) rfl rfl rfl rfl
    have hp := passes_of (X := cxOf (L2.CX PR w) PR w K mg base ["one", "other"] "common" (defScope s65) (ga K "common") cdv A outer s H E) rfl
    have hN := sc65.nd
    show CSs _ _ _ (b65 (runFn T k)) _
    delta b65
    exact css_cons ((by first | exact cs_par 0 1 rfl hN (cf_val (ce_callB call_abs rd_abs rfl (F.free 28) PyProof.Rows.boot_abs (ca_cons (ce_var 0) (ca_nil)))) (cf_val (ce_callB call_abs rd_abs rfl (F.free 28) PyProof.Rows.boot_abs (ca_cons (ce_var 1) (ca_nil)))) | exact cs_parT 0 1 rfl hN (cf_val (ce_callB call_abs rd_abs rfl (F.free 28) PyProof.Rows.boot_abs (ca_cons (ce_var 0) (ca_nil)))) (cf_val (ce_callB call_abs rd_abs rfl (F.free 28) PyProof.Rows.boot_abs (ca_cons (ce_var 1) (ca_nil)))))) (css_cons (cs_while hp (ct_cmp op_gt rd_gt (ce_var 1) (ce_int)) (css_one ((by first | exact cs_par 0 1 rfl hN (cf_val (ce_var 1)) (cf_val (ce_op op_sub rd_sub (ce_var 0) (ce_op op_mulAll rd_mul (ce_op op_fdivW rd_div (ce_var 0) (ce_var 1)) (ce_var 1)))) | exact cs_parT 0 1 rfl hN (cf_val (ce_var 1)) (cf_val (ce_op op_sub rd_sub (ce_var 0) (ce_op op_mulAll rd_mul (ce_op op_fdivW rd_div (ce_var 0) (ce_var 1)) (ce_var 1)))))))) (css_one (cs_ret (cf_val (ce_var 0)))))
set_option linter.unusedVariables false in
theorem o106 (F : Fx fa fb ts gs w K mg) {k : Nat} (h : Hy w K mg base k) : FnOk PR w K mg base (L2.CX PR w) (3 * (k + 1)) (ga K "are_letters") (fdOf K (ga K "are_letters")) ["value"] (spF ⟨PR, w, K, cm K⟩ (runFn T (k + 1) 106)) :=
  ok_def (j := 3 * k + 2) (fn := fn106) (f106 F) sc106 rfl rfl rfl rfl fun cdv A outer s H E hr => by
    have tk := takes_of (X := cxOf (L2.CX PR w) PR w K mg base ["value", "one", "other", "sign"] "are_letters" (defScope s106) (ga K "are_letters") cdv A outer s H E) rfl rfl rfl rfl
    have hp := passes_of (X := cxOf (L2.CX PR w) PR w K mg base ["value", "one", "other", "sign"] "are_letters" (defScope s106) (ga K "are_letters") cdv A outer s H E) rfl
    have hN := sc106.nd
    show CSs _ _ _ (b106 (runFn T k)) _
    delta b106
    exact css_cons (cs_if (ct_w (cw_or (ct_not (ct_val (ce_isi rfl (by decide) (F.free 18) (F.free 50) (by decide +kernel) (ce_var 0)))) (cw_or (ct_cmp (op_eqD hr.units) rd_eq (ce_var 0) (ce_str (s := []))) (cw_or1 (ct_not (ct_val (ce_callB (cr_all rfl) rd_all rfl (F.free 40) PyProof.Rows.boot_all (ca_cons (ce_frz (cf_lc (own := [("sign", 3)]) rfl hN (ci_any (ce_var 0)) (BlkOk.mk (N := ["value", "one", "other", "sign"]) (sc := defScope s106) rfl (by decide +kernel) (by decide +kernel) (by decide +kernel) (by decide +kernel)) (by decide +kernel) (fun _ _ _ _ _ => cgp_name 3 hN) (fun _ _ _ _ _ => cts_nil) (fun _ _ _ _ _ => ce_cmp op_inAll rd_in (ce_var 3) (ce_gstr (s := [97, 98, 99, 100]) (F.str 51))))) (ca_nil))))))))) (css_one (cs_ret (cf_val (ce_bl)))) (css_nil)) (css_one (cs_ret (cf_val (ce_callB (cr_all rfl) rd_all rfl (F.free 40) PyProof.Rows.boot_all (ca_cons (ce_frz (cf_lc (own := [("one", 1), ("other", 2)]) rfl hN (ci_zipS (F.free 41) (ce_var 0) (ce_cutS (ce_var 0) (co_some (ce_int)) (co_none))) (BlkOk.mk (N := ["value", "one", "other", "sign"]) (sc := defScope s106) rfl (by decide +kernel) (by decide +kernel) (by decide +kernel) (by decide +kernel)) (by decide +kernel) (fun _ _ _ _ _ => cgp_tup rfl (cgps_cons (cgp_name 1 hN) (cgps_cons (cgp_name 2 hN) (cgps_nil)))) (fun _ _ _ _ _ => cts_nil) (fun _ _ _ _ _ => ce_cmp op_ltAll rd_lt (ce_var 1) (ce_var 2)))) (ca_nil))))))
theorem hy_zero : Hy w K mg base 0 := ⟨ok_zero, ok_zero, ok_zeroI, ok_zero, ok_zero, ok_zero, ok_zero, ok_zero, ok_zero, ok_zero, ok_zero, ok_zero, ok_zero, ok_zero, ok_zero, ok_zero, ok_zero, ok_zero, ok_zero, ok_zero, ok_zero, ok_zero, ok_zero, ok_zero, ok_zero, ok_zero, ok_zero, ok_zero, ok_zero, ok_zero, ok_zero, ok_zero, ok_zero, ok_zero, ok_zero, ok_zero⟩
theorem hy_all (F : Fx fa fb ts gs w K mg) : ∀ k, Hy w K mg base k
  | 0 => hy_zero
  | k + 1 => have h := hy_all F k
    ⟨o0 F h, o184 F h, o111 F h, o185 F h, o112 F h, o113 F h, o115 F h, o162 F h, o114 F h, o1 F h, o161 F h, o183 F h, o116 F h, o187 F h, o117 F h, o186 F h, o105 F h, o108 F h, o110 F h, o163 F h, o164 F h, o77 F h, o74 F h, o72 F h, o75 F h, o71 F h, o69 F h, o73 F h, o68 F h, o107 F h, o109 F h, o70 F h, o67 F h, o64 F h, o65 F h, o106 F h⟩
end
abbrev hk : PySem.W.Hook := hookB 5 fa fb ts gs
def ob (s : PySem.W.SharedT) : AlB := obsB 5 fa fb ts gs (HandSHeadRun.getT s)
theorem ob_eq (s : PySem.W.SharedT) : ob s = hk.obs s.abs := obsB_eq (HandSHeadRun.getT_eq s)
theorem run (w : World) : HandSHeadRun.RunEq RO (PySem.W.view RO.prog [52]) hk ob 20000 loose w := run_parts
  (both_worlds (fun b w => by cases b with | false => exact q1f w | true => exact q1t w) w) (both_worlds (fun b w => by cases b with | false => exact q2f w | true => exact q2t w) w)
  (both_worlds (fun b w => by cases b with | false => exact q3f w | true => exact q3t w) w) (both_worlds (fun b w => by cases b with | false => exact q4f w | true => exact q4t w) w)
open PySem.W PySem.Calls in
theorem holds (hlaw : ∀ ns : List Int, ns.length ≤ 63 → ∃ st, runFn T 70 0 [.scr ns] [] = .ok (.val (.bl true)) st) : PySem.Challenge.rw_beatrounds_k05_rhythms_made.Holds := by
  w_on; o_law
  refine HandSHeadRun.head_any (r := OpenLaw.row PySem.Challenge.rw_beatrounds_k05_rhythms_made) (q := view (OpenLaw.row PySem.Challenge.rw_beatrounds_k05_rhythms_made).prog [52]) (H := hk) (ob := ob) (M := 20000) (loose := loose) (d := HandSHeadRun.topDef (OpenLaw.row PySem.Challenge.rw_beatrounds_k05_rhythms_made).prog 52) (kwd := []) ob_eq
    (by kernel_rfl) (fun s => by kernel_rfl) run (by kernel_rfl) (by kernel_rfl) (by kernel_rfl) (by rfl) (by first | assumption | decide +kernel) (by decide +kernel) ⟨rfl, rfl, rfl, rfl, rfl, by decide +kernel⟩ ?hw ?hc
  case hw => w_witness2
  case hc =>
    refine end_walk (l := PySem.Challenge.rw_beatrounds_k05_rhythms_made) (n := 63) (k := 210) (x := "_law_script") rfl (by decide) (by kernel_rfl) ⟨rfl, by decide, by decide⟩ ?F
    intro w mg fo h Y G hmg0
    obtain ⟨K, KX, c⟩ := Y
    have F : Fx fa fb ts gs w K mg := ⟨h, KX, G, c⟩
    have hmg : mg ("law" : PySem.Str) = some (.ref fo) := by
      have e : (HandSHeadRun.topDef (OpenLaw.row PySem.Challenge.rw_beatrounds_k05_rhythms_made).prog 52).name = ("law" : PySem.Str) := by kernel_rfl
      rw [← e]
      exact hmg0
    have e := hmg.symm.trans (F.glo 52)
    cases e
    have b := FunD.bindsA (ps := ["_law_script"]) (f0 F) fun _ _ _ _ _ _ us hl => match us, hl with | [_], _ => by kernel_rfl
    exact ⟨K, _, _, KX, fun s u => b s [u] rfl, fun H a ns hl hS => sp_top hS (hlaw ns hl), fun base _ _ => (hy_all F 70).k0⟩
end K05
set_option Elab.async false
set_option linter.all false
set_option maxRecDepth 100000
set_option maxHeartbeats 4000000
/-! M1: the draws of a law: a row of the store and _law_taken. -/
namespace MX
open PySem BR
/-- the draws' row: the script, a place in it, a seed, a rest -/
def rowOf (ns : List Int) (i s r : Int) : SO := .lst [.scr ns, .int i, .int s, .int r]
def RowOk (ns : List Int) (o : SO) : Prop := ∃ i s r, o = rowOf ns i s r ∧ 0 ≤ i ∧ 0 ≤ s ∧ s < 2147483647
/-- _law_taken -/
def bTaken (call : CallT) : SM := sSeq (sIf (tVal (eOp2 pGt (eOp2S pIdxS (eVar 0) (eC (.int 3))) (eC (.int 0)))) (sSeq (sSet 3 (fVal (eOp2 pMod (eOpN nInt (aCons (eOp2S pIdxS (eVar 0) (eC (.int 3))) (aNil))) (eVar 1)))) (sSeq (sSetIxL (eVar 0) (eOp2 pDiv (eOp2S pIdxS (eVar 0) (eC (.int 3))) (eVar 1)) (eC (.int 3))) (sRet (fVal (eVar 3))))) (sNil)) (sSeq (sSetIxL (eVar 0) (eOp2 pAdd (eOp2S pIdxS (eVar 0) (eC (.int 1))) (eC (.int 1))) (eC (.int 1))) (sSeq (sIf (tVal (eOp2 pGt (eOp2S pIdxS (eVar 0) (eC (.int 1))) (eOp1S nLenS (eOp2S pIdxS (eVar 0) (eC (.int 0)))))) (sSeq (sSetIxL (eVar 0) (eOp2 pMod (eOpN nInt (aCons (eOp2 pAdd (eOp2 pMul (eOp2S pIdxS (eVar 0) (eC (.int 2))) (eC (.int 48271))) (eC (.int 11))) (aNil))) (eC (.int 2147483647))) (eC (.int 2))) (sRet (fVal (eOp2 pMod (eOpN nInt (aCons (eOp2 pDiv (eOp2S pIdxS (eVar 0) (eC (.int 2))) (eC (.int 7))) (aNil))) (eVar 1))))) (sNil)) (sSeq (sSet 2 (fVal (eOp2S pIdxS (eOp2S pIdxS (eVar 0) (eC (.int 0))) (eOp2 pSub (eOp2S pIdxS (eVar 0) (eC (.int 1))) (eC (.int 1)))))) (sSeq (sSetIxL (eVar 0) (eOp2 pMod (eOpN nInt (aCons (eOp2 pAdd (eOp2 pAdd (eOp2 pMul (eOp2S pIdxS (eVar 0) (eC (.int 2))) (eC (.int 48271))) (eVar 2)) (eC (.int 11))) (aNil))) (eC (.int 2147483647))) (eC (.int 2))) (sSeq (sIf (tVal (eOp2 pGe (eVar 2) (eOp2 pPow (eC (.int 10)) (eC (.int 18))))) (sSetIxL (eVar 0) (eOp2 pDiv (eVar 2) (eVar 1)) (eC (.int 3))) (sNil)) (sRet (fVal (eOp2 pMod (eOpN nInt (aCons (eVar 2) (aNil))) (eVar 1)))))))))
def fnTaken : Fn := ⟨2, 4, none, bTaken⟩
theorem pow1018 : pPow (.int 10) (.int 18) = some (.int 1000000000000000000) := by
  unfold pPow
  simp
theorem taken_ok {T : Nat → Option Fn} {k id : Nat} (hT : T id = some fnTaken) {ns : List Int} {o : SO} {rest : Store} {m : Int} (hm : 0 < m) (hm2 : m < 2 ^ 62) (h : RowOk ns o) :
    ∃ v o', runFn T (k + 1) id [.ref 0, .int m] (o :: rest) = .ok (.val (.int v)) (o' :: rest) ∧ 0 ≤ v ∧ v < m ∧ RowOk ns o' := by
  obtain ⟨i, s, r, e, hi, hs0, hs1⟩ := h
  subst e
  have sm : small m = true := small_of (by omega) hm2
  have md : ∀ x : Int, 0 ≤ x % m ∧ x % m < m := fun x => ⟨Int.emod_nonneg _ (by omega), Int.emod_lt_of_pos _ hm⟩
  rw [run_fn hT rfl]
  unfold bTaken rowOf
  by_cases hr : 0 < r
  · refine ⟨r % m, rowOf ns i s (r / m), ?_, (md r).1, (md r).2, ⟨i, s, r / m, rfl, hi, hs0, hs1⟩⟩
    simp [hr, pMod_int hm, pDiv_int hm sm, rowOf]
  · have ss : small s = true := small_of hs0 (by omega)
    have s4 : small 48271 = true := by decide
    have s7 : small 7 = true := by decide
    have mds : ∀ x : Int, 0 ≤ x % 2147483647 ∧ x % 2147483647 < 2147483647 := fun x => ⟨Int.emod_nonneg _ (by omega), Int.emod_lt_of_pos _ (by omega)⟩
    have b0 : (0 : Int) < 2147483647 := by decide
    have b7 : (0 : Int) < 7 := by decide
    by_cases hn : i + 1 ≤ ns.length
    · have hg : ¬ (ns.length : Int) < i + 1 := by omega
      have ha : L2.atI ns i = some ns[i.toNat]! := by
        rw [atI_at hi (by omega), List.getElem?_eq_getElem (by omega), getElem!_pos ns i.toNat (by omega)]
      generalize hc : ns[i.toNat]! = c at ha
      have i1 : i + 1 - 1 = i := by omega
      by_cases hb : (1000000000000000000 : Int) ≤ c
      · refine ⟨c % m, rowOf ns (i + 1) ((s * 48271 + c + 11) % 2147483647) (c / m), ?_, (md c).1, (md c).2, ⟨_, _, _, rfl, by omega, (mds _).1, (mds _).2⟩⟩
        simp [hr, hg, ha, i1, hb, pow1018, pMul_int ss s4, pMod_int b0, pMod_int hm, pDiv_int hm sm, rowOf]
      · refine ⟨c % m, rowOf ns (i + 1) ((s * 48271 + c + 11) % 2147483647) r, ?_, (md c).1, (md c).2, ⟨_, _, _, rfl, by omega, (mds _).1, (mds _).2⟩⟩
        simp [hr, hg, ha, i1, hb, pow1018, pMul_int ss s4, pMod_int b0, pMod_int hm, pDiv_int hm sm, rowOf]
    · have hg : (ns.length : Int) < i + 1 := by omega
      refine ⟨((s * 48271 + 11) % 2147483647 / 7) % m, rowOf ns (i + 1) ((s * 48271 + 11) % 2147483647) r, ?_, (md _).1, (md _).2, ⟨_, _, _, rfl, by omega, (mds _).1, (mds _).2⟩⟩
      simp [hr, hg, pMul_int ss s4, pMod_int b0, pMod_int hm, pDiv_int b7 s7, rowOf]
end MX
set_option Elab.async false
set_option linter.all false
set_option maxRecDepth 100000
set_option maxHeartbeats 4000000
/-! S1: what the package's fractions compute: Rat. -/
namespace BP
open BR PySem
/-- a law's table bears these of the package's defs -/
def Has (T : Nat → Option Fn) (S : List Nat) : Prop := ∀ i ∈ S, T i = PT i
theorem Has.sub {T : Nat → Option Fn} {S R : List Nat} (h : Has T S) (hs : ∀ i ∈ R, i ∈ S := by decide) : Has T R := fun i hi => h i (hs i hi)
theorem Has.at {T : Nat → Option Fn} {S : List Nat} (h : Has T S) (i : Nat) (hs : i ∈ S := by decide) : T i = PT i := h i hs
theorem Has.nil {T : Nat → Option Fn} : Has T [] := fun _ h => by cases h
theorem Has.cons {T : Nat → Option Fn} {i : Nat} {S : List Nat} (h : T i = PT i) (r : Has T S) : Has T (i :: S) := fun j hj => by
  cases hj with
  | head => exact h
  | tail _ q => exact r j q
theorem run_at {T : Nat → Option Fn} {k id : Nat} {args : List PV} {ps n : Nat} {body : CallT → SM} {st : Store} (h : T id = some ⟨ps, n, none, body⟩) (hk : 0 < k) (ha : args.length = ps := by rfl) :
    runFn T k id args st = BR.finish (body (runFn T (k - 1)) (args.map .val ++ List.replicate (n - ps) .un) st) := by
  obtain ⟨m, rfl⟩ : ∃ m, k = m + 1 := ⟨k - 1, by omega⟩
  exact run_fn h ha
theorem fuel_ge : 2 ^ 9000 ≤ fuel := by
  unfold fuel
  exact Nat.pow_le_pow_right (by decide) (by decide)
theorem small_iff {a : Int} : small a = true ↔ a.natAbs.log2 < 9000 := by unfold small; exact decide_eq_true_iff
theorem small_nat {a : Int} (h : a.natAbs < 2 ^ 9000) : small a = true := small_iff.mpr (PySem.Flt.log2_lt_of (by decide) h)
theorem whileGo_succ (c : BM) (b : SM) (n : Nat) (ρ : BR.Env) (st : Store) : whileGo c b (n + 1) ρ st = (c ρ st).bindS ρ fun k st1 => if k then (b ρ st1).loop (whileGo c b n) else .next ρ st1 := by
  conv => lhs; unfold whileGo
  congr 1
section
variable {T : Nat → Option Fn} {k : Nat} {st : Store}
/-! ### gcd -/
theorem gcd_turn {c : BM} {b : SM} (hc : ∀ (x y : Nat), c [.val (.int x), .val (.int y)] st = .ok (decide (0 < y)) st)
    (hb : ∀ (x y : Nat), 0 < y → x < 2 ^ 9000 → y < 2 ^ 9000 → b [.val (.int x), .val (.int y)] st = .next [.val (.int y), .val (.int ((x % y : Nat) : Int))] st) :
    ∀ (n : Nat) (x y : Nat), y < n → x < 2 ^ 9000 → y < 2 ^ 9000 → whileGo c b n [.val (.int x), .val (.int y)] st = .next [.val (.int (Nat.gcd x y)), .val (.int 0)] st
  | 0, _, _, h, _, _ => absurd h (Nat.not_lt_zero _)
  | n + 1, x, y, h, h1, h2 => by
    rw [whileGo_succ, hc, bindS_ok]
    by_cases hy : 0 < y
    · have lt : x % y < y := Nat.mod_lt _ hy
      rw [decide_eq_true hy, if_pos rfl, hb x y hy h1 h2, loop_next, gcd_turn hc hb n y (x % y) (by omega) h2 (Nat.lt_trans lt h2), Nat.gcd_comm y, ← Nat.gcd_rec, Nat.gcd_comm]
    · have e : y = 0 := by omega
      subst e
      rw [decide_eq_false hy, if_neg Bool.false_ne_true, Nat.gcd_zero_right]
      rfl
theorem nAbs_int (a : Int) : nAbs [.int a] = some (.int a.natAbs) := by
  unfold nAbs
  simp only [Option.some.injEq, PV.int.injEq]
  omega
theorem common_ok (h : Has T [65]) (hk : 0 < k) {a b : Int} (ha : a.natAbs < 2 ^ 9000) (hb : b.natAbs < 2 ^ 9000) : runFn T k 65 [.int a, .int b] st = .ok (.val (.int (Int.gcd a b))) st := by
  rw [run_at (h.at 65) hk]
  unfold b65
  have e := gcd_turn (st := st) (c := tVal (eOp2 pGt (eVar 1) (eC (.int 0)))) (b := sPar 0 1 (fVal (eVar 1)) (fVal (eOp2 pSub (eVar 0) (eOp2 pMul (eOp2 pDiv (eVar 0) (eVar 1)) (eVar 1)))))
    (fun x y => by simp) (fun x y hy h1 h2 => by
      have sy : small (y : Int) = true := small_nat (by simpa using h2)
      have h0 : (0 : Int) < y := by omega
      have sx : small ((x : Int) / y) = true := small_nat (Nat.lt_of_le_of_lt (by rw [← Int.natCast_ediv, Int.natAbs_natCast]; exact Nat.div_le_self _ _) h1)
      have em : (x : Int) - x / y * y = ((x % y : Nat) : Int) := by rw [Int.natCast_emod, Int.emod_def, Int.mul_comm]
      simp [pDiv_int h0 sy, pMul_int sx sy, em]) fuel a.natAbs b.natAbs (Nat.lt_of_lt_of_le hb fuel_ge) ha hb
  simp [nAbs_int, sWhile, e]
  rfl
/-! ### fractions -/
def fr (q : Rat) : PV := .tup [.int q.num, .int q.den]
theorem fr_div {n p : Int} (hp : 0 < p) : fr (Rat.divInt n p) = .tup [.int (n / (Int.gcd n p : Nat)), .int (p / (Int.gcd n p : Nat))] := by
  unfold fr
  rw [Rat.num_divInt, Rat.den_divInt, if_neg (by omega), Int.sign_eq_one_of_pos hp, Int.one_mul, Int.gcd_comm p n, Int.natCast_ediv, Int.natAbs_of_nonneg (by omega)]
theorem fr_neg {n p : Int} : fr (Rat.divInt (-n) (-p)) = fr (Rat.divInt n p) := by rw [Rat.neg_divInt_neg]
theorem gcd_le {n p : Int} (hp : 0 < p) : 0 < (Int.gcd n p : Int) ∧ (Int.gcd n p : Int) ≤ p := by
  have h0 : 0 < Int.gcd n p := Int.gcd_pos_of_ne_zero_right n (by omega)
  have h1 : (Int.gcd n p : Int) ≤ p := Int.le_of_dvd hp (Int.gcd_dvd_right n p)
  omega
theorem frac_core {call : CallT} {n p : Int} (hp : 0 < p) (hp2 : p.natAbs < 2 ^ 9000) (e : call 65 [.int n, .int p] st = .ok (.val (.int (Int.gcd n p))) st) :
    (sSeq (sSet 2 (fVal (eFrz (fCall call 65 (aCons (eVar 0) (aCons (eVar 1) (aNil))))))) (sRet (fVal (eTup (aCons (eOp2 pDiv (eVar 0) (eVar 2)) (aCons (eOp2 pDiv (eVar 1) (eVar 2)) (aNil))))))) [.val (.int n), .val (.int p), .un] st = .ret (.val (fr (Rat.divInt n p))) st := by
  have g := gcd_le (n := n) hp
  have sg : small (Int.gcd n p : Int) = true := small_nat (Nat.lt_of_le_of_lt (by omega) hp2)
  simp [e, pDiv_int g.1 sg, fr_div hp]
theorem fraction_ok (h : Has T [65, 67]) (hk : 1 < k) {n p : Int} (hp : p ≠ 0) (hn : n.natAbs < 2 ^ 9000) (hp2 : p.natAbs < 2 ^ 9000) : runFn T k 67 [.int n, .int p] st = .ok (.val (fr (Rat.divInt n p))) st := by
  rw [run_at (h.at 67) (by omega)]
  unfold b67
  rw [sSeq_ev]
  by_cases hs : p < 0
  · have e : sIf (tVal (eOp2 pLt (eVar 1) (eC (.int 0)))) (sPar 0 1 (fVal (eOp1 pNeg (eVar 0))) (fVal (eOp1 pNeg (eVar 1)))) sNil ([PV.int n, .int p].map SV.val ++ List.replicate (3 - 2) SV.un) st = .next [.val (.int (-n)), .val (.int (-p)), .un] st := by simp [hs]
    rw [e, seq_next, frac_core (by omega) (by omega) (common_ok h.sub (by omega) (by omega) (by omega)), fr_neg]
    rfl
  · have e : sIf (tVal (eOp2 pLt (eVar 1) (eC (.int 0)))) (sPar 0 1 (fVal (eOp1 pNeg (eVar 0))) (fVal (eOp1 pNeg (eVar 1)))) sNil ([PV.int n, .int p].map SV.val ++ List.replicate (3 - 2) SV.un) st = .next [.val (.int n), .val (.int p), .un] st := by simp [hs]
    rw [e, seq_next, frac_core (by omega) hp2 (common_ok h.sub (by omega) hn hp2)]
    rfl
/-! ### how large -/
/-- below 2 ^ n, above and below -/
def Fit (n : Nat) (q : Rat) : Prop := q.num.natAbs < 2 ^ n ∧ q.den < 2 ^ n
theorem Fit.mono {m n : Nat} {q : Rat} (h : Fit m q) (l : m ≤ n) : Fit n q := ⟨Nat.lt_of_lt_of_le h.1 (Nat.pow_le_pow_right (by decide) l), Nat.lt_of_lt_of_le h.2 (Nat.pow_le_pow_right (by decide) l)⟩
theorem lt_mul {a b m n : Nat} (h : a < 2 ^ m) (h2 : b < 2 ^ n) : a * b < 2 ^ (m + n) := by
  rw [Nat.pow_add]
  exact Nat.mul_lt_mul'' h h2
theorem fit_div {n : Nat} {a b : Int} (ha : a.natAbs < 2 ^ n) (hb : b.natAbs < 2 ^ n) (hz : b ≠ 0) : Fit n (Rat.divInt a b) := by
  refine ⟨?_, ?_⟩
  · rw [Rat.num_divInt]
    refine Nat.lt_of_le_of_lt ?_ ha
    refine Nat.le_trans (Int.natAbs_ediv_le_natAbs _ _) ?_
    rw [Int.natAbs_mul, Int.natAbs_sign_of_ne_zero hz, Nat.one_mul]
    exact Nat.le_refl _
  · rw [Rat.den_divInt, if_neg hz]
    exact Nat.lt_of_le_of_lt (Nat.div_le_self _ _) hb
theorem fit_mk {n : Nat} {a : Int} {d : Nat} (ha : a.natAbs < 2 ^ n) (hb : d < 2 ^ n) (hz : d ≠ 0) : Fit n (mkRat a d) := by
  rw [← Rat.divInt_ofNat]
  exact fit_div ha (by simpa using hb) (by simpa using hz)
theorem nz2 (a b : Rat) : a.den * b.den ≠ 0 := Nat.mul_ne_zero a.den_nz b.den_nz
theorem fit_add {m n : Nat} {a b : Rat} (ha : Fit m a) (hb : Fit n b) : Fit (m + n + 1) (a + b) := by
  rw [Rat.add_def']
  refine fit_mk ?_ ?_ (nz2 a b)
  · have h1 := lt_mul ha.1 hb.2
    have h2 := lt_mul hb.1 ha.2
    rw [Nat.add_comm n m] at h2
    have : (a.num * b.den + b.num * a.den).natAbs ≤ a.num.natAbs * b.den + b.num.natAbs * a.den := by
      refine Nat.le_trans (Int.natAbs_add_le _ _) ?_
      rw [Int.natAbs_mul, Int.natAbs_mul, Int.natAbs_natCast, Int.natAbs_natCast]
      exact Nat.le_refl _
    rw [Nat.pow_succ]
    omega
  · have := lt_mul ha.2 hb.2
    rw [Nat.pow_succ]
    omega
theorem fit_sub {m n : Nat} {a b : Rat} (ha : Fit m a) (hb : Fit n b) : Fit (m + n + 1) (a - b) := by
  rw [Rat.sub_def']
  refine fit_mk ?_ ?_ (nz2 a b)
  · have h1 := lt_mul ha.1 hb.2
    have h2 := lt_mul hb.1 ha.2
    rw [Nat.add_comm n m] at h2
    have : (a.num * b.den - b.num * a.den).natAbs ≤ a.num.natAbs * b.den + b.num.natAbs * a.den := by
      refine Nat.le_trans (Int.natAbs_sub_le _ _) ?_
      rw [Int.natAbs_mul, Int.natAbs_mul, Int.natAbs_natCast, Int.natAbs_natCast]
      exact Nat.le_refl _
    rw [Nat.pow_succ]
    omega
  · have := lt_mul ha.2 hb.2
    rw [Nat.pow_succ]
    omega
theorem fit_mul {m n : Nat} {a b : Rat} (ha : Fit m a) (hb : Fit n b) : Fit (m + n) (a * b) := by
  rw [Rat.mul_def']
  exact fit_mk (by rw [Int.natAbs_mul]; exact lt_mul ha.1 hb.1) (lt_mul ha.2 hb.2) (nz2 a b)
theorem over_eq {a b : Rat} : a / b = Rat.divInt (a.num * b.den) (a.den * b.num) := by
  rw [Rat.div_def, Rat.inv_def]
  conv => lhs; rw [← Rat.num_divInt_den a]
  rw [Rat.divInt_mul_divInt]
theorem num_nz {b : Rat} (hb : b ≠ 0) : b.num ≠ 0 := fun e => hb (Rat.num_eq_zero.mp e)
theorem par_nz {a b : Rat} (hb : b ≠ 0) : (a.den : Int) * b.num ≠ 0 := Int.mul_ne_zero (by have := a.den_nz; omega) (num_nz hb)
theorem fit_over {m n : Nat} {a b : Rat} (ha : Fit m a) (hb : Fit n b) (hz : b ≠ 0) : Fit (m + n) (a / b) := by
  rw [over_eq]
  refine fit_div ?_ ?_ (par_nz hz)
  · rw [Int.natAbs_mul, Int.natAbs_natCast]
    exact lt_mul ha.1 hb.2
  · rw [Int.natAbs_mul, Int.natAbs_natCast]
    exact lt_mul ha.2 hb.1
theorem Fit.sn {n : Nat} {q : Rat} (h : Fit n q) (l : n ≤ 9000) : small q.num = true := small_nat (h.mono l).1
theorem Fit.sd {n : Nat} {q : Rat} (h : Fit n q) (l : n ≤ 9000) : small (q.den : Int) = true := small_nat (by simpa using (h.mono l).2)
@[simp] theorem fr_at0 (q : Rat) : pIdxS (fr q) (.int 0) st = some (.int q.num) := rfl
@[simp] theorem fr_at1 (q : Rat) : pIdxS (fr q) (.int 1) st = some (.int q.den) := rfl
theorem den_pos' (q : Rat) : (0 : Int) < q.den := by have := q.den_pos; omega
variable {a b : Rat}
theorem added_ok (h : Has T [65, 67, 69]) (hk : 2 < k) (ha : Fit 4000 a) (hb : Fit 4000 b) : runFn T k 69 [fr a, fr b] st = .ok (.val (fr (a + b))) st := by
  rw [run_at (h.at 69) (by omega)]
  have f := fit_add ha hb
  have e := fraction_ok (k := k - 1) (st := st) h.sub (by omega) (n := a.num * b.den + b.num * a.den) (p := a.den * b.den) (by have := nz2 a b; exact_mod_cast this)
    (by
      have h1 := lt_mul ha.1 hb.2
      have h2 := lt_mul hb.1 ha.2
      have : (a.num * b.den + b.num * a.den).natAbs ≤ a.num.natAbs * b.den + b.num.natAbs * a.den := by
        refine Nat.le_trans (Int.natAbs_add_le _ _) ?_
        rw [Int.natAbs_mul, Int.natAbs_mul, Int.natAbs_natCast, Int.natAbs_natCast]
        exact Nat.le_refl _
      have : 2 ^ (4000 + 4000) + 2 ^ (4000 + 4000) ≤ 2 ^ 9000 := by decide +kernel
      omega)
    (by
      rw [← Int.natCast_mul, Int.natAbs_natCast]
      exact Nat.lt_of_lt_of_le (lt_mul ha.2 hb.2) (by decide +kernel))
  rw [← Int.natCast_mul, Rat.divInt_ofNat, ← Rat.add_def', Int.natCast_mul] at e
  unfold b69
  simp [e, pMul_int (ha.sn (by decide)) (hb.sd (by decide)), pMul_int (hb.sn (by decide)) (ha.sd (by decide)), pMul_int (ha.sd (by decide)) (hb.sd (by decide))]
theorem less_ok (h : Has T [65, 67, 70]) (hk : 2 < k) (ha : Fit 4000 a) (hb : Fit 4000 b) : runFn T k 70 [fr a, fr b] st = .ok (.val (fr (a - b))) st := by
  rw [run_at (h.at 70) (by omega)]
  have e := fraction_ok (k := k - 1) (st := st) h.sub (by omega) (n := a.num * b.den - b.num * a.den) (p := a.den * b.den) (by have := nz2 a b; exact_mod_cast this)
    (by
      have h1 := lt_mul ha.1 hb.2
      have h2 := lt_mul hb.1 ha.2
      have : (a.num * b.den - b.num * a.den).natAbs ≤ a.num.natAbs * b.den + b.num.natAbs * a.den := by
        refine Nat.le_trans (Int.natAbs_sub_le _ _) ?_
        rw [Int.natAbs_mul, Int.natAbs_mul, Int.natAbs_natCast, Int.natAbs_natCast]
        exact Nat.le_refl _
      have : 2 ^ (4000 + 4000) + 2 ^ (4000 + 4000) ≤ 2 ^ 9000 := by decide +kernel
      omega)
    (by
      rw [← Int.natCast_mul, Int.natAbs_natCast]
      exact Nat.lt_of_lt_of_le (lt_mul ha.2 hb.2) (by decide +kernel))
  rw [← Int.natCast_mul, Rat.divInt_ofNat, ← Rat.sub_def', Int.natCast_mul] at e
  unfold b70
  simp [e, pMul_int (ha.sn (by decide)) (hb.sd (by decide)), pMul_int (hb.sn (by decide)) (ha.sd (by decide)), pMul_int (ha.sd (by decide)) (hb.sd (by decide))]
theorem product_ok (h : Has T [65, 67, 71]) (hk : 2 < k) (ha : Fit 4000 a) (hb : Fit 4000 b) : runFn T k 71 [fr a, fr b] st = .ok (.val (fr (a * b))) st := by
  rw [run_at (h.at 71) (by omega)]
  have e := fraction_ok (k := k - 1) (st := st) h.sub (by omega) (n := a.num * b.num) (p := a.den * b.den) (by have := nz2 a b; exact_mod_cast this)
    (by rw [Int.natAbs_mul]; exact Nat.lt_of_lt_of_le (lt_mul ha.1 hb.1) (by decide +kernel))
    (by
      rw [← Int.natCast_mul, Int.natAbs_natCast]
      exact Nat.lt_of_lt_of_le (lt_mul ha.2 hb.2) (by decide +kernel))
  rw [← Int.natCast_mul, Rat.divInt_ofNat, ← Rat.mul_def', Int.natCast_mul] at e
  unfold b71
  simp [e, pMul_int (ha.sn (by decide)) (hb.sn (by decide)), pMul_int (ha.sd (by decide)) (hb.sd (by decide))]
theorem over_ok (h : Has T [65, 67, 72]) (hk : 2 < k) (ha : Fit 4000 a) (hb : Fit 4000 b) (hz : b ≠ 0) : runFn T k 72 [fr a, fr b] st = .ok (.val (fr (a / b))) st := by
  rw [run_at (h.at 72) (by omega)]
  have e := fraction_ok (k := k - 1) (st := st) h.sub (by omega) (n := a.num * b.den) (p := a.den * b.num) (par_nz hz)
    (by rw [Int.natAbs_mul, Int.natAbs_natCast]; exact Nat.lt_of_lt_of_le (lt_mul ha.1 hb.2) (by decide +kernel))
    (by rw [Int.natAbs_mul, Int.natAbs_natCast]; exact Nat.lt_of_lt_of_le (lt_mul ha.2 hb.1) (by decide +kernel))
  rw [← over_eq] at e
  unfold b72
  simp [e, pMul_int (ha.sn (by decide)) (hb.sd (by decide)), pMul_int (ha.sd (by decide)) (hb.sn (by decide))]
theorem is_less_ok (h : Has T [73]) (hk : 0 < k) (ha : Fit 9000 a) (hb : Fit 9000 b) : runFn T k 73 [fr a, fr b] st = .ok (.val (.bl (decide (a < b)))) st := by
  rw [run_at (h.at 73) (by omega)]
  unfold b73
  simp [Rat.lt_iff, pMul_int (ha.sn (by decide)) (hb.sd (by decide)), pMul_int (hb.sn (by decide)) (ha.sd (by decide))]
theorem floor_ok (h : Has T [74]) (hk : 0 < k) (ha : Fit 9000 a) : runFn T k 74 [fr a] st = .ok (.val (.int a.floor)) st := by
  rw [run_at (h.at 74) (by omega)]
  unfold b74
  simp [Rat.floor_def, pDiv_int (den_pos' a) (ha.sd (by decide))]
theorem ceiling_ok (h : Has T [75]) (hk : 0 < k) (ha : Fit 9000 a) : runFn T k 75 [fr a] st = .ok (.val (.int a.ceil)) st := by
  rw [run_at (h.at 75) (by omega)]
  unfold b75
  simp [Rat.ceil_eq_neg_floor_neg, Rat.floor_def, pDiv_int (den_pos' a) (ha.sd (by decide))]
theorem multiple_ok (h : Has T [65, 66]) (hk : 1 < k) {x y : Int} (hx : 0 < x) (hy : 0 < y) (fx : x.natAbs < 2 ^ 9000) (fy : y.natAbs < 2 ^ 9000) : runFn T k 66 [.int x, .int y] st = .ok (.val (.int (Int.lcm x y))) st := by
  rw [run_at (h.at 66) (by omega)]
  have e := common_ok (k := k - 1) (st := st) h.sub (by omega) fx fy
  have g := gcd_le (n := x) hy
  have sg : small (Int.gcd x y : Int) = true := small_nat (Nat.lt_of_le_of_lt (by omega) fy)
  have sx : small (x / (Int.gcd x y : Int)) = true := small_nat (Nat.lt_of_le_of_lt (Int.natAbs_ediv_le_natAbs _ _) fx)
  have q : x / (Int.gcd x y : Int) * y = (Int.lcm x y : Int) := by
    obtain ⟨c, hc⟩ := Int.gcd_dvd_left x y
    have h1 : (Int.gcd x y : Int) * (Int.lcm x y : Int) = x * y := by
      rw [← Int.natCast_mul, Int.gcd_mul_lcm]
      rw [Int.natCast_mul, Int.natAbs_of_nonneg (by omega), Int.natAbs_of_nonneg (by omega)]
    have h2 : x / (Int.gcd x y : Int) = c := Int.ediv_eq_of_eq_mul_right (by omega) hc
    rw [h2]
    apply Int.eq_of_mul_eq_mul_left (a := (Int.gcd x y : Int)) (by omega)
    rw [h1, ← Int.mul_assoc, ← hc]
  unfold b66
  simp [e, pDiv_int g.1 sg, pMul_int sx (small_nat fy), q]
end
end BP
set_option Elab.async false
set_option linter.all false
set_option maxRecDepth 100000
set_option maxHeartbeats 4000000
/-! S2: loops and comprehensions over lists that are known; in_order. -/
namespace BP
open BR PySem
section
variable {α β σ : Type} {T : Nat → Option Fn} {k : Nat} {st : Store} {ρ : BR.Env}
/-- a comprehension that leaves the store alone -/
theorem lcGo_of {g : GM} {t : BM} {e : EM} (b : α → PV) (p : α → Bool) (f : α → PV) : ∀ (ys : List α) (acc : List PV), acc.length + ys.length ≤ lim →
    (∀ y ∈ ys, ∃ ρ1, g (b y) ρ st = some (ρ1, st) ∧ t ρ1 st = .ok (p y) st ∧ (p y = true → e ρ1 st = .ok (f y) st)) →
    lcGo g t e ρ (ys.map b) acc st = .ok (acc ++ (ys.filter p).map f) st
  | [], acc, _, _ => by simp [lcGo]
  | y :: ys, acc, hl, h => by
    obtain ⟨ρ1, h1, h2, h3⟩ := h y List.mem_cons_self
    rw [List.length_cons] at hl
    have rest := fun acc hl => lcGo_of b p f ys acc hl fun z hz => h z (List.mem_cons_of_mem _ hz)
    rw [List.map_cons]
    unfold lcGo
    rw [h1]
    simp only
    rw [h2, noexY, bind_ok]
    cases hp : p y with
    | false =>
      rw [if_neg Bool.false_ne_true, rest acc (by omega), List.filter_cons_of_neg (by rw [hp]; exact Bool.false_ne_true)]
    | true =>
      rw [if_pos rfl, h3 hp, noexY, bind_ok, if_pos (by omega), rest (acc ++ [f y]) (by rw [List.length_append, List.length_singleton]; omega), List.filter_cons_of_pos hp, List.map_cons, List.append_assoc, List.singleton_append]
theorem fLc_of {w : AM} {own : List Nat} {g : GM} {t : BM} {e : EM} (b : α → PV) (p : α → Bool) (f : α → PV) (ys : List α) (hw : w ρ st = .ok (ys.map b) st) (hl : ys.length ≤ lim)
    (h : ∀ y ∈ ys, ∃ ρ1, g (b y) (wipeE ρ own) st = some (ρ1, st) ∧ t ρ1 st = .ok (p y) st ∧ (p y = true → e ρ1 st = .ok (f y) st)) : fLc w own g t e ρ st = .ok (.own ((ys.filter p).map f)) st := by
  unfold fLc
  rw [hw, bind_ok, lcGo_of b p f ys [] (by simpa using hl) h, bind_ok, List.nil_append]
theorem fLc_map {w : AM} {own : List Nat} {g : GM} {e : EM} (b : α → PV) (f : α → PV) (ys : List α) (hw : w ρ st = .ok (ys.map b) st) (hl : ys.length ≤ lim)
    (h : ∀ y ∈ ys, ∃ ρ1, g (b y) (wipeE ρ own) st = some (ρ1, st) ∧ e ρ1 st = .ok (f y) st) : fLc w own g tYes e ρ st = .ok (.own (ys.map f)) st := by
  rw [fLc_of b (fun _ => true) f ys hw hl fun y hy => ?_]
  · rw [List.filter_eq_self.mpr (fun _ _ => rfl)]
  · obtain ⟨ρ1, h1, h2⟩ := h y hy
    exact ⟨ρ1, h1, rfl, fun _ => h2⟩
/-- a loop that steps a state on -/
theorem forGo_rel {g : GM} {body : SM} (b : α → PV) (Q : σ → BR.Env → Prop) (step : σ → α → σ) : ∀ (ys : List α) (s : σ) (ρ : BR.Env), Q s ρ →
    (∀ s ρ y, y ∈ ys → Q s ρ → ∃ ρ1 ρ2, g (b y) ρ st = some (ρ1, st) ∧ (body ρ1 st = .next ρ2 st ∨ body ρ1 st = .cnt ρ2 st) ∧ Q (step s y) ρ2) →
    ∃ ρ', forGo g body (ys.map b) ρ st = .next ρ' st ∧ Q (ys.foldl step s) ρ'
  | [], s, ρ, q, _ => ⟨ρ, rfl, q⟩
  | y :: ys, s, ρ, q, h => by
    obtain ⟨ρ1, ρ2, h1, h2, h3⟩ := h s ρ y List.mem_cons_self q
    obtain ⟨ρ', e, q'⟩ := forGo_rel b Q step ys (step s y) ρ2 h3 fun s ρ z hz => h s ρ z (List.mem_cons_of_mem _ hz)
    refine ⟨ρ', ?_, q'⟩
    rw [List.map_cons, forGo_cons h1]
    rcases h2 with h2 | h2
    · rw [h2, loop_next, e]
    · rw [h2, loop_cnt, e]
/-! ### sorting -/
theorem insBy_map {lt : α → α → Bool} {lt' : β → β → Bool} (f : α → β) (x : α) : ∀ (l : List α), (∀ y ∈ l, lt' (f x) (f y) = lt x y) → (∀ y ∈ l, lt' (f y) (f x) = lt y x) → insBy lt' (f x) (l.map f) = (insBy lt x l).map f
  | [], _, _ => rfl
  | y :: l, h, h2 => by
    have e1 := h y List.mem_cons_self
    have e2 := h2 y List.mem_cons_self
    have r := insBy_map (lt := lt) (lt' := lt') f x l (fun z hz => h z (List.mem_cons_of_mem _ hz)) fun z hz => h2 z (List.mem_cons_of_mem _ hz)
    simp only [List.map_cons, insBy, e1, e2]
    split
    · rw [r, List.map_cons]
    · rfl
theorem mem_insBy {lt : α → α → Bool} {x z : α} : ∀ {l : List α}, z ∈ insBy lt x l → z = x ∨ z ∈ l
  | [], h => by simpa [insBy] using h
  | y :: l, h => by
    unfold insBy at h
    split at h
    · rcases List.mem_cons.mp h with e | e
      · exact .inr (by rw [e]; exact List.mem_cons_self)
      · exact (mem_insBy e).imp id (List.mem_cons_of_mem _)
    · rcases List.mem_cons.mp h with e | e
      · exact .inl e
      · exact .inr e
theorem mem_isort {lt : α → α → Bool} {z : α} : ∀ {l : List α}, z ∈ isort lt l → z ∈ l
  | [], h => h
  | y :: l, h => by
    rcases mem_insBy (show z ∈ insBy lt y (isort lt l) from h) with e | e
    · rw [e]; exact List.mem_cons_self
    · exact List.mem_cons_of_mem _ (mem_isort e)
theorem isort_map {lt : α → α → Bool} {lt' : β → β → Bool} (f : α → β) : ∀ (l : List α), (∀ x ∈ l, ∀ y ∈ l, lt' (f x) (f y) = lt x y) → isort lt' (l.map f) = (isort lt l).map f
  | [], _ => rfl
  | x :: l, h => by
    show insBy lt' (f x) (isort lt' (l.map f)) = (insBy lt x (isort lt l)).map f
    rw [isort_map f l fun a ha b hb => h a (List.mem_cons_of_mem _ ha) b (List.mem_cons_of_mem _ hb)]
    exact insBy_map f x _ (fun y hy => h x List.mem_cons_self y (List.mem_cons_of_mem _ (mem_isort hy))) fun y hy => h y (List.mem_cons_of_mem _ (mem_isort hy)) x List.mem_cons_self
/-! ### pairs of a fraction and a text -/
abbrev Beat := Rat × List Nat
def bt (x : Beat) : PV := .tup [fr x.1, .str x.2]
def ltB (x y : Beat) : Bool := if x.1 = y.1 then decide (x.2 < y.2) else decide (x.1 < y.1)
def partsOf (xs : List Beat) : Nat := xs.foldl (fun p x => Nat.lcm p x.1.den) 1
theorem lcm_fold {D : Nat} : ∀ (xs : List Beat) (p : Nat), 0 < p → p ∣ D → (∀ x ∈ xs, x.1.den ∣ D) → 0 < xs.foldl (fun p x => Nat.lcm p x.1.den) p ∧ xs.foldl (fun p x => Nat.lcm p x.1.den) p ∣ D ∧ p ∣ xs.foldl (fun p x => Nat.lcm p x.1.den) p ∧ ∀ x ∈ xs, x.1.den ∣ xs.foldl (fun p x => Nat.lcm p x.1.den) p
  | [], p, h0, h1, _ => ⟨h0, h1, Nat.dvd_refl _, fun _ h => by cases h⟩
  | x :: xs, p, h0, h1, h => by
    have q := lcm_fold (D := D) xs (Nat.lcm p x.1.den) (Nat.lcm_pos h0 x.1.den_pos) (Nat.lcm_dvd h1 (h x List.mem_cons_self)) fun y hy => h y (List.mem_cons_of_mem _ hy)
    refine ⟨q.1, q.2.1, Nat.dvd_trans (Nat.dvd_lcm_left _ _) q.2.2.1, fun y hy => ?_⟩
    rcases List.mem_cons.mp hy with e | e
    · rw [e]; exact Nat.dvd_trans (Nat.dvd_lcm_right _ _) q.2.2.1
    · exact q.2.2.2 y e
def rowF (P : Nat) (x : Beat) : Int × List Nat := (x.1.num * ((P : Int) / x.1.den), x.2)
theorem part_mul {P : Nat} {q : Rat} (h : q.den ∣ P) : (q.den : Int) * ((P : Int) / q.den) = P := Int.mul_ediv_cancel' (by exact_mod_cast h)
theorem row_lt {P : Nat} {x y : Rat} (hP : 0 < P) (hx : x.den ∣ P) (hy : y.den ∣ P) : x.num * ((P : Int) / x.den) < y.num * ((P : Int) / y.den) ↔ x < y := by
  have ex := part_mul hx
  have ey := part_mul hy
  have dx := den_pos' x
  have dy := den_pos' y
  rw [Rat.lt_iff]
  generalize (P : Int) / x.den = c at ex ⊢
  generalize (P : Int) / y.den = d at ey ⊢
  have hp : (0 : Int) < P := by omega
  have e1 : x.num * c * (x.den * y.den) = x.num * y.den * P := by rw [← ex]; ac_rfl
  have e2 : y.num * d * (x.den * y.den) = y.num * x.den * P := by rw [← ey]; ac_rfl
  have dd : (0 : Int) < x.den * y.den := Int.mul_pos dx dy
  constructor
  · intro h
    have := Int.mul_lt_mul_of_pos_right h dd
    rw [e1, e2] at this
    exact Int.lt_of_mul_lt_mul_right this (Int.le_of_lt hp)
  · intro h
    have := Int.mul_lt_mul_of_pos_right h hp
    rw [← e1, ← e2] at this
    exact Int.lt_of_mul_lt_mul_right this (Int.le_of_lt dd)
theorem row_eq {P : Nat} {x y : Rat} (hP : 0 < P) (hx : x.den ∣ P) (hy : y.den ∣ P) : x.num * ((P : Int) / x.den) = y.num * ((P : Int) / y.den) ↔ x = y := by
  constructor
  · intro h
    have h1 := mt (row_lt hP hx hy).mpr (by omega)
    have h2 := mt (row_lt hP hy hx).mpr (by omega)
    exact Rat.le_antisymm (Rat.not_lt.mp h2) (Rat.not_lt.mp h1)
  · intro h
    rw [h]
theorem row_ltB {P : Nat} {x y : Beat} (hP : 0 < P) (hx : x.1.den ∣ P) (hy : y.1.den ∣ P) : ltIS (rowF P x) (rowF P y) = ltB x y := by
  unfold ltIS ltB rowF
  simp only [row_eq hP hx hy, row_lt hP hx hy]
theorem row_back {P : Nat} {x : Rat} (hP : 0 < P) (hx : x.den ∣ P) : Rat.divInt (x.num * ((P : Int) / x.den)) P = x := by
  have ex := part_mul hx
  have hc : (P : Int) / x.den ≠ 0 := fun e => by rw [e, Int.mul_zero] at ex; omega
  conv => lhs; rw [← ex]
  rw [show (x.den : Int) * ((P : Int) / x.den) / x.den = (P : Int) / x.den from by rw [ex]]
  rw [Rat.divInt_mul_right hc, Rat.num_divInt_den]
theorem pairs_row (l : List (Int × List Nat)) : pairsIS (l.map fun p => .tup [.int p.1, .str p.2]) = some l := by
  induction l with
  | nil => rfl
  | cons x l ih =>
    show ((pairIS (.tup [.int x.1, .str x.2])).bind fun p => (pairsIS (l.map fun p => PV.tup [.int p.1, .str p.2])).map fun ps => p :: ps) = _
    rw [ih]
    rfl
theorem in_order_ok (h : Has T [65, 66, 67, 78]) (hk : 2 < k) {xs : List Beat} {D : Nat} (hD : 0 < D) (hD2 : D < 2 ^ 4000) (hx : ∀ x ∈ xs, x.1.den ∣ D ∧ Fit 4000 x.1) (hl : xs.length ≤ lim) :
    runFn T k 78 [.lst (xs.map bt)] st = .ok (.own ((isort ltB xs).map bt)) st := by
  rw [run_at (h.at 78) (by omega)]
  obtain ⟨p0, p1, _, p3⟩ := lcm_fold (D := D) xs 1 (by decide) (Nat.one_dvd _) fun x hx' => (hx x hx').1
  have pl := Nat.le_of_dvd hD p1
  obtain ⟨ρ', e1, q⟩ := forGo_rel (st := st) (g := gTup [gName 3, gName 4]) (body := sSet 1 (fVal (eFrz (fCall (runFn T (k - 1)) 66 (aCons (eVar 1) (aCons (eOp2S pIdxS (eVar 3) (eC (.int 1))) (aNil))))))) bt
    (fun (p : Nat) ρ => (0 < p ∧ p ∣ D) ∧ ∃ a b, ρ = [.val (.lst (xs.map bt)), .val (.int (p : Int)), .un, a, b, .un]) (fun p x => Nat.lcm p x.1.den) xs 1 [.val (.lst (xs.map bt)), .val (.int 1), .un, .un, .un, .un]
    ⟨⟨by decide, Nat.one_dvd _⟩, .un, .un, rfl⟩ (by
      rintro p _ y hy ⟨⟨h0, h1⟩, a, b, rfl⟩
      have l1 := Nat.le_of_dvd hD h1
      have e := multiple_ok (k := k - 1) (st := st) (h.sub (R := [65, 66])) (by omega) (x := (p : Int)) (y := (y.1.den : Int)) (by omega) (den_pos' y.1) (by rw [Int.natAbs_natCast]; exact Nat.lt_of_le_of_lt l1 (Nat.lt_trans hD2 (by decide +kernel)))
        (by rw [Int.natAbs_natCast]; exact Nat.lt_trans (hx y hy).2.2 (by decide +kernel))
      have el : (Int.lcm (p : Int) (y.1.den : Int)) = Nat.lcm p y.1.den := rfl
      rw [el] at e
      refine ⟨_, _, rfl, .inl ?_, ⟨Nat.lcm_pos h0 y.1.den_pos, Nat.lcm_dvd h1 (hx y hy).1⟩, .val (fr y.1), .val (.str y.2), rfl⟩
      simp [e])
  obtain ⟨_, a, b, rfl⟩ := q
  generalize hP : xs.foldl (fun p x => Nat.lcm p x.1.den) 1 = P at p0 p1 p3 pl e1
  have e2 := fLc_map (st := st) (ρ := [.val (.lst (xs.map bt)), .val (.int (P : Int)), .un, a, b, .un]) (w := wItems (eVar 0)) (own := [3, 4]) (g := gTup [gName 3, gName 4])
    (e := eTup (aCons (eOp2 pMul (eOp2S pIdxS (eVar 3) (eC (.int 0))) (eOp2 pDiv (eVar 1) (eOp2S pIdxS (eVar 3) (eC (.int 1))))) (aCons (eVar 4) (aNil)))) bt (fun x => PV.tup [.int (rowF P x).1, .str (rowF P x).2]) xs (by simp) hl
    (fun y hy => by
      refine ⟨[.val (.lst (xs.map bt)), .val (.int (P : Int)), .un, .val (fr y.1), .val (.str y.2), .un], rfl, ?_⟩
      have s1 := (hx y hy).2.sn (by decide)
      have s2 := (hx y hy).2.sd (by decide)
      have s3 : small ((P : Int) / y.1.den) = true := small_nat (Nat.lt_of_le_of_lt (Int.natAbs_ediv_le_natAbs _ _) (by rw [Int.natAbs_natCast]; exact Nat.lt_of_le_of_lt pl (Nat.lt_trans hD2 (by decide +kernel))))
      simp [pDiv_int (den_pos' y.1) s2, pMul_int s1 s3, rowF])
  have e3 : nSortIS [.lst (xs.map fun x => PV.tup [.int (rowF P x).1, .str (rowF P x).2])] = some (.lst ((isort ltB xs).map fun x => PV.tup [.int (rowF P x).1, .str (rowF P x).2])) := by
    have := pairs_row (xs.map (rowF P))
    rw [List.map_map] at this
    show (pairsIS (xs.map fun x => PV.tup [.int (rowF P x).1, .str (rowF P x).2])).map _ = _
    rw [show (xs.map fun x => PV.tup [.int (rowF P x).1, .str (rowF P x).2]) = xs.map ((fun p : Int × List Nat => PV.tup [.int p.1, .str p.2]) ∘ rowF P) from rfl, this]
    simp only [Option.map_some, Option.some.injEq, PV.lst.injEq]
    rw [isort_map (lt := ltB) (rowF P) xs fun x hx' y hy' => row_ltB p0 (p3 x hx') (p3 y hy'), List.map_map]
    rfl
  have il : (isort ltB xs).length ≤ lim := by
    have : ∀ l : List Beat, (isort ltB l).length = l.length := fun l => by
      have ins : ∀ (x : Beat) (l : List Beat), (insBy ltB x l).length = l.length + 1 := fun x l => by
        induction l with
        | nil => rfl
        | cons y l ih =>
          unfold insBy
          split
          · rw [List.length_cons, ih, List.length_cons]
          · rfl
      induction l with
      | nil => rfl
      | cons x l ih => rw [show isort ltB (x :: l) = insBy ltB x (isort ltB l) from rfl, ins, ih, List.length_cons]
    rw [this]; exact hl
  have e4 := fLc_map (st := st) (ρ := [.val (.lst (xs.map bt)), .val (.int (P : Int)), .val (.lst ((isort ltB xs).map fun x => PV.tup [.int (rowF P x).1, .str (rowF P x).2])), a, b, .un]) (w := wItems (eVar 2)) (own := [5, 4]) (g := gTup [gName 5, gName 4])
    (e := eTup (aCons (eFrz (fCall (runFn T (k - 1)) 67 (aCons (eVar 5) (aCons (eVar 1) (aNil))))) (aCons (eVar 4) (aNil)))) (fun x => PV.tup [.int (rowF P x).1, .str (rowF P x).2]) bt (isort ltB xs) (by simp) il
    (fun y hy => by
      have my := mem_isort hy
      refine ⟨[.val (.lst (xs.map bt)), .val (.int (P : Int)), .val (.lst ((isort ltB xs).map fun x => PV.tup [.int (rowF P x).1, .str (rowF P x).2])), a, .val (.str y.2), .val (.int (rowF P y).1)], rfl, ?_⟩
      have e := fraction_ok (k := k - 1) (st := st) (h.sub (R := [65, 67])) (by omega) (n := (rowF P y).1) (p := (P : Int)) (by omega)
        (by
          unfold rowF
          rw [Int.natAbs_mul]
          refine Nat.lt_of_lt_of_le (lt_mul (n := 4000) (hx y my).2.1 ?_) (by decide +kernel)
          exact Nat.lt_of_le_of_lt (Int.natAbs_ediv_le_natAbs _ _) (by rw [Int.natAbs_natCast]; exact Nat.lt_of_le_of_lt pl hD2))
        (by rw [Int.natAbs_natCast]; exact Nat.lt_of_le_of_lt pl (Nat.lt_trans hD2 (by decide +kernel)))
      rw [show Rat.divInt (rowF P y).1 P = y.1 from row_back p0 (p3 y my)] at e
      simp [e, bt])
  unfold b78
  have e1' : forGo (gTup [gName 3, gName 4]) (sSet 1 (fVal (eFrz (fCall (runFn T (k - 1)) 66 (aCons (eVar 1) (aCons (eOp2S pIdxS (eVar 3) (eC (.int 1))) (aNil))))))) (xs.map bt) [.val (.lst (xs.map bt)), .val (.int 1), .un, .un, .un, .un] st = .next [.val (.lst (xs.map bt)), .val (.int (P : Int)), .un, a, b, .un] st := e1
  simp [e1', e2, e3, e4]
end
end BP
set_option Elab.async false
set_option linter.all false
set_option maxRecDepth 100000
set_option maxHeartbeats 4000000
/-! S3: what rhythms do: sound, between; need_few. -/
namespace BP
open BR PySem
theorem fr_int (n : Int) : PV.tup [.int n, .int 1] = fr (n : Rat) := rfl
theorem fit_int {n : Int} {m : Nat} (h : n.natAbs < 2 ^ m) (hm : 0 < m) : Fit m (n : Rat) := ⟨h, Nat.one_lt_two_pow (by omega)⟩
theorem fit_floor {q : Rat} {m : Nat} (h : Fit m q) : q.floor.natAbs < 2 ^ m := by
  rw [Rat.floor_def]
  exact Nat.lt_of_le_of_lt (Int.natAbs_ediv_le_natAbs _ _) h.1
theorem fit_zero {m : Nat} (hm : 0 < m) : Fit m 0 := ⟨Nat.two_pow_pos m, Nat.one_lt_two_pow (by omega)⟩
theorem eqv_fr (a b : Rat) : eqv (fr a) (fr b) = decide (a = b) := by
  show (decide (a.num = b.num) && (decide ((a.den : Int) = b.den) && true)) = decide (a = b)
  rw [Bool.and_true, ← Bool.decide_and]
  exact decide_eq_decide.mpr ⟨fun ⟨h1, h2⟩ => Rat.ext h1 (by exact_mod_cast h2), fun h => by rw [h]; exact ⟨rfl, rfl⟩⟩
theorem kok_fr (a : Rat) : kok (fr a) = true := rfl
/-! ### need_few -/
section
variable {T : Nat → Option Fn} {k : Nat} {st : Store}
theorem need_ok (h : Has T [91]) (hk : 0 < k) {c : Int} (hc : c ≤ 1000) : runFn T k 91 [.int c] st = .ok (.val .non) st := by
  rw [run_at (h.at 91) hk]
  unfold b91
  have : ¬ (1000 : Int) < c := by omega
  simp [this]
theorem need_ex (h : Has T [91]) (hk : 0 < k) {c : Int} (hc : 1000 < c) : runFn T k 91 [.int c] st = .ex 4 ["count"] [.int c] st := by
  rw [run_at (h.at 91) hk]
  unfold b91
  simp [hc, sRaise1]
/-! ### rhythms -/
/-- a Rhythm: its period, its beats -/
def rhy (p : Rat) (bs : List Beat) : PV := .ins 0 ["size", "row", "letters_at"] [fr p, .tup (bs.map bt), .dct (bs.map fun b => fr b.1) (bs.map fun b => .str b.2)]
@[simp] theorem rhy_ins (p bs) : insOf 0 (rhy p bs) st = some ((["size", "row", "letters_at"] : List Str), [fr p, .tup (bs.map bt), .dct (bs.map fun b => fr b.1) (bs.map fun b => .str b.2)]) := rfl
def rbey (t p : Rat) : Rat := t - p * (t / p).floor
theorem beyond_ok (h : Has T [65, 67, 70, 71, 72, 74, 77]) (hk : 3 < k) {t p : Rat} (ht : Fit 1000 t) (hp : Fit 1000 p) (hz : p ≠ 0) : runFn T k 77 [fr t, fr p] st = .ok (.val (fr (rbey t p))) st := by
  rw [run_at (h.at 77) (by omega)]
  have f1 := fit_over ht hp hz
  have f2 := fit_floor f1
  have f3 := fit_mul hp (fit_int f2 (by decide))
  have e1 := over_ok (st := st) (k := k - 1) h.sub (by omega) (ht.mono (by decide)) (hp.mono (by decide)) hz
  have e2 := floor_ok (st := st) (k := k - 1) h.sub (by omega) (f1.mono (by decide))
  have e3 := product_ok (st := st) (k := k - 1) h.sub (by omega) (hp.mono (by decide)) ((fit_int f2 (by decide)).mono (by decide) : Fit 4000 ((t / p).floor : Rat))
  have e4 := less_ok (st := st) (k := k - 1) h.sub (by omega) (ht.mono (by decide)) (f3.mono (by decide))
  rw [← fr_int] at e3
  unfold b77
  simp [e1, e2, e3, e4, rbey]
theorem fit_bey {t p : Rat} {m n : Nat} (ht : Fit m t) (hp : Fit n p) (hz : p ≠ 0) (hm : 0 < m + n) : Fit (m + (n + (m + n)) + 1) (rbey t p) := fit_sub ht (fit_mul hp (fit_int (fit_floor (fit_over ht hp hz)) hm))
/-- the letters at a time ahead of the period -/
def look (bs : List Beat) (t : Rat) : List Nat := ((bs.find? fun b => decide (b.1 = t)).map (·.2)).getD []
theorem dGet_bt (bs : List Beat) (t : Rat) : (dGet (fr t) (bs.map fun b => fr b.1) (bs.map fun b => .str b.2)).getD (.str []) = .str (look bs t) := by
  induction bs with
  | nil => rfl
  | cons b bs ih =>
    rw [List.map_cons, List.map_cons]
    unfold dGet look
    rw [eqv_fr, List.find?_cons]
    cases e : decide (b.1 = t) with
    | true => rfl
    | false =>
      rw [if_neg Bool.false_ne_true, ih]
      rfl
theorem sound_ok (h : Has T [65, 67, 70, 71, 72, 74, 77, 116]) (hk : 4 < k) {t p : Rat} {bs : List Beat} (ht : Fit 1000 t) (hp : Fit 1000 p) (hz : p ≠ 0) : runFn T k 116 [rhy p bs, fr t] st = .ok (.val (.str (look bs (rbey t p)))) st := by
  rw [run_at (h.at 116) (by omega)]
  have e := beyond_ok (st := st) (k := k - 1) h.sub (by omega) ht hp hz
  have g := dGet_bt bs (rbey t p)
  unfold b116
  have e2 : eDGet (eAttr 0 "letters_at" (eVar 0)) (eFrz (fCall (runFn T (k - 1)) 77 (aCons (eVar 1) (aCons (eAttr 0 "size" (eVar 0)) aNil)))) (eC (.str [])) [.val (rhy p bs), .val (fr t)] st = .ok (.str (look bs (rbey t p))) st := by
    unfold eDGet
    have a1 : eAttr 0 "letters_at" (eVar 0) [.val (rhy p bs), .val (fr t)] st = .ok (.dct (bs.map fun b => fr b.1) (bs.map fun b => .str b.2)) st := rfl
    have a2 : eFrz (fCall (runFn T (k - 1)) 77 (aCons (eVar 1) (aCons (eAttr 0 "size" (eVar 0)) aNil))) [.val (rhy p bs), .val (fr t)] st = .ok (fr (rbey t p)) st := by
      have a3 : eAttr 0 "size" (eVar 0) [.val (rhy p bs), .val (fr t)] st = .ok (fr p) st := rfl
      simp only [eFrz_ev, fCall_ev, aCons_ev, eVar_ev, List.getElem?_cons_succ, List.getElem?_cons_zero, rdV_val, bind_ok, kCons_ev, a3, aNil_ev, kCons2_ev, e, kFrz_ev, toPV_val, ofOpt_some]
    rw [a1, bind_ok]
    simp only
    rw [a2, bind_ok, eC_ev, bind_ok, kok_fr, if_pos rfl, g]
  simp [e2]
/-! ### between -/
def nums (lo : Int) (n : Nat) : List Int := (List.range n).map fun t : Nat => lo + (t : Int)
theorem upInts_nums : ∀ (n : Nat) (lo : Int), upInts lo n = (nums lo n).map PV.int
  | 0, _ => rfl
  | n + 1, lo => by
    unfold upInts
    rw [upInts_nums n (lo + 1)]
    unfold nums
    rw [List.range_succ_eq_map]
    simp only [List.map_cons, List.map_map]
    congr 1
    · simp
    · apply List.map_congr_left
      intro a _
      simp only [Function.comp_apply, PV.int.injEq]
      omega
theorem mem_nums {lo : Int} {n : Nat} {x : Int} (h : x ∈ nums lo n) : lo ≤ x ∧ x < lo + n := by
  obtain ⟨t, ht, rfl⟩ := List.mem_map.mp h
  have := List.mem_range.mp ht
  omega
theorem rng2_nums {i j : Int} (hi : -(2 ^ 62) ≤ i ∧ i < 2 ^ 62) (hj : -(2 ^ 62) ≤ j ∧ j < 2 ^ 62) : rng2 (.int i) (.int j) = some ((nums i (j - i).toNat).map PV.int) := by
  unfold rng2
  simp only
  rw [show big62 i = true from decide_eq_true hi, show big62 j = true from decide_eq_true hj, upInts_nums]
  rfl
theorem forGo_pre {α : Type} {g : GM} {body : SM} (b : α → PV) (ys : List α) (Q : List α → BR.Env → Prop)
    (h : ∀ pre y post ρ, ys = pre ++ y :: post → Q pre ρ → ∃ ρ1 ρ2, g (b y) ρ st = some (ρ1, st) ∧ (body ρ1 st = .next ρ2 st ∨ body ρ1 st = .cnt ρ2 st) ∧ Q (pre ++ [y]) ρ2) {ρ : BR.Env} (q : Q [] ρ) :
    ∃ ρ', forGo g body (ys.map b) ρ st = .next ρ' st ∧ Q ys ρ' := by
  suffices ∀ (post pre : List α) (ρ : BR.Env), ys = pre ++ post → Q pre ρ → ∃ ρ', forGo g body (post.map b) ρ st = .next ρ' st ∧ Q ys ρ' from this ys [] ρ rfl q
  intro post
  induction post with
  | nil =>
    intro pre ρ e q
    rw [List.append_nil] at e
    exact ⟨ρ, rfl, by rw [e]; exact q⟩
  | cons y post ih =>
    intro pre ρ e q
    obtain ⟨ρ1, ρ2, h1, h2, h3⟩ := h pre y post ρ e q
    obtain ⟨ρ', e', q'⟩ := ih (pre ++ [y]) ρ2 (by rw [e, List.append_assoc]; rfl) h3
    refine ⟨ρ', ?_, q'⟩
    rw [List.map_cons, forGo_cons h1]
    rcases h2 with h2 | h2
    · rw [h2, loop_next, e']
    · rw [h2, loop_cnt, e']
/-- the beats of one turn within a stretch -/
def hits (p : Rat) (bs : List Beat) (s e : Rat) (t : Int) : List Beat := (bs.map fun b => (p * t + b.1, b.2)).filter fun x => !decide (x.1 < s) && decide (x.1 < e)
def betw (p : Rat) (bs : List Beat) (s e : Rat) : List Beat := (nums (s / p).floor ((e / p).ceil - (s / p).floor).toNat).flatMap (hits p bs s e)
theorem between_ok (h : Has T [65, 67, 69, 71, 72, 73, 74, 75, 117]) (hk : 4 < k) {p s e : Rat} {bs : List Beat} (hp : Fit 1000 p) (hz : p ≠ 0) (hs : Fit 1000 s) (he : Fit 1000 e) (hb : ∀ b ∈ bs, Fit 1000 b.1)
    (h1 : -(2 ^ 62) ≤ (s / p).floor ∧ (s / p).floor < 2 ^ 62) (h2 : -(2 ^ 62) ≤ (e / p).ceil ∧ (e / p).ceil < 2 ^ 62) (hl : (betw p bs s e).length ≤ lim) :
    runFn T k 117 [rhy p bs, fr s, fr e] st = .ok (.own ((betw p bs s e).map bt)) st := by
  rw [run_at (h.at 117) (by omega)]
  have e1 := over_ok (st := st) (k := k - 1) h.sub (by omega) (hs.mono (by decide)) (hp.mono (by decide)) hz
  have e2 := over_ok (st := st) (k := k - 1) h.sub (by omega) (he.mono (by decide)) (hp.mono (by decide)) hz
  have e3 := floor_ok (st := st) (k := k - 1) h.sub (by omega) ((fit_over hs hp hz).mono (by decide))
  have e4 := ceiling_ok (st := st) (k := k - 1) h.sub (by omega) ((fit_over he hp hz).mono (by decide))
  have er := rng2_nums h1 h2
  generalize hT : nums (s / p).floor ((e / p).ceil - (s / p).floor).toNat = ts at er
  have tb : ∀ t ∈ ts, Fit 63 (t : Rat) := fun t ht => by
    rw [← hT] at ht
    have := mem_nums ht
    refine fit_int ?_ (by decide)
    omega
  have hB : betw p bs s e = ts.flatMap (hits p bs s e) := by unfold betw; rw [hT]
  rw [hB] at hl ⊢
  obtain ⟨ρ', e5, c4, c5, c6, c7, c8, rfl⟩ := forGo_pre (st := st) (g := gName 4) (body := (sSeq (sSet 5 (fVal (eFrz (fCall (runFn T (k - 1)) 71 (aCons (eAttr 0 "size" (eVar 0)) (aCons (eTup (aCons (eVar 4) (aCons (eC (.int 1)) (aNil)))) (aNil))))))) (sFor (wItems (eAttr 0 "row" (eVar 0))) (gTup [gName 6, gName 7]) (sSeq (sSet 8 (fVal (eFrz (fCall (runFn T (k - 1)) 69 (aCons (eVar 5) (aCons (eVar 6) (aNil))))))) (sIf (tAnd (tNot (tVal (eFrz (fCall (runFn T (k - 1)) 73 (aCons (eVar 8) (aCons (eVar 1) (aNil))))))) (tVal (eFrz (fCall (runFn T (k - 1)) 73 (aCons (eVar 8) (aCons (eVar 2) (aNil))))))) (sApp 3 (eTup (aCons (eVar 8) (aCons (eVar 7) (aNil))))) (sNil))))))
    PV.int ts (fun pre ρ => ∃ c4 c5 c6 c7 c8, ρ = [.val (rhy p bs), .val (fr s), .val (fr e), .own ((pre.flatMap (hits p bs s e)).map bt), c4, c5, c6, c7, c8])
    (by
      rintro pre t post _ hy ⟨c4, c5, c6, c7, c8, rfl⟩
      have ft := tb t (by rw [hy]; simp)
      have e6 := product_ok (st := st) (k := k - 1) h.sub (by omega) (hp.mono (by decide)) (ft.mono (by decide))
      rw [← fr_int] at e6
      have fpt := fit_mul hp ft
      generalize hacc : pre.flatMap (hits p bs s e) = acc
      have hlen : acc.length + (hits p bs s e t).length ≤ lim := by
        rw [hy, List.flatMap_append, List.flatMap_cons, hacc, List.length_append, List.length_append] at hl
        omega
      obtain ⟨ρ', e7, d6, d7, d8, rfl⟩ := forGo_pre (st := st) (g := gTup [gName 6, gName 7]) (body := (sSeq (sSet 8 (fVal (eFrz (fCall (runFn T (k - 1)) 69 (aCons (eVar 5) (aCons (eVar 6) (aNil))))))) (sIf (tAnd (tNot (tVal (eFrz (fCall (runFn T (k - 1)) 73 (aCons (eVar 8) (aCons (eVar 1) (aNil))))))) (tVal (eFrz (fCall (runFn T (k - 1)) 73 (aCons (eVar 8) (aCons (eVar 2) (aNil))))))) (sApp 3 (eTup (aCons (eVar 8) (aCons (eVar 7) (aNil))))) (sNil))))
        bt bs (fun pr ρ => ∃ d6 d7 d8, ρ = [.val (rhy p bs), .val (fr s), .val (fr e), .own ((acc ++ hits p pr s e t).map bt), .val (.int t), .val (fr (p * t)), d6, d7, d8])
        (by
          rintro pr b ps _ hyb ⟨d6, d7, d8, rfl⟩
          have fb := hb b (by rw [hyb]; simp)
          have e8 := added_ok (st := st) (k := k - 1) h.sub (by omega) (fpt.mono (by decide)) (fb.mono (by decide))
          have fh := fit_add fpt fb
          have e9 := is_less_ok (st := st) (k := k - 1) h.sub (by omega) (fh.mono (by decide)) (hs.mono (by decide))
          have e10 := is_less_ok (st := st) (k := k - 1) h.sub (by omega) (fh.mono (by decide)) (he.mono (by decide))
          have hh : hits p (pr ++ [b]) s e t = hits p pr s e t ++ (if !decide (p * t + b.1 < s) && decide (p * t + b.1 < e) then [(p * t + b.1, b.2)] else []) := by
            unfold hits
            rw [List.map_append, List.filter_append]
            congr 1
            simp only [List.map_cons, List.map_nil, List.filter_cons, List.filter_nil]
          have hlb : (hits p (pr ++ [b]) s e t).length ≤ (hits p bs s e t).length := by
            rw [hyb, show pr ++ b :: ps = (pr ++ [b]) ++ ps from by simp]
            unfold hits
            simp only [List.map_append, List.filter_append, List.length_append]
            omega
          cases hc : (!decide (p * t + b.1 < s) && decide (p * t + b.1 < e)) with
          | false =>
            refine ⟨_, [.val (rhy p bs), .val (fr s), .val (fr e), .own ((acc ++ hits p pr s e t).map bt), .val (.int t), .val (fr (p * t)), .val (fr b.1), .val (.str b.2), .val (fr (p * t + b.1))], rfl, .inl ?_, _, _, _, by rw [hh, hc, if_neg Bool.false_ne_true, List.append_nil]⟩
            cases hc1 : decide (p * t + b.1 < s) with
            | true => simp [e8, e9, e10, hc1]
            | false =>
              rw [hc1] at hc
              simp only [Bool.not_false, Bool.true_and] at hc
              simp [e8, e9, e10, hc1, hc]
          | true =>
            have hc1 : decide (p * t + b.1 < s) = false := by
              cases q : decide (p * t + b.1 < s) with
              | false => rfl
              | true => rw [q] at hc; cases hc
            have hc2 : decide (p * t + b.1 < e) = true := by rw [hc1] at hc; simpa using hc
            refine ⟨_, [.val (rhy p bs), .val (fr s), .val (fr e), .own ((acc ++ hits p (pr ++ [b]) s e t).map bt), .val (.int t), .val (fr (p * t)), .val (fr b.1), .val (.str b.2), .val (fr (p * t + b.1))], rfl, .inl ?_, _, _, _, rfl⟩
            rw [hc, if_pos rfl] at hh
            have hlt : ((acc ++ hits p pr s e t).map bt).length < lim := by
              rw [hh, List.length_append, List.length_singleton] at hlb
              rw [List.length_map, List.length_append]
              omega
            have ka := kApp_ev (ρ := [.val (rhy p bs), .val (fr s), .val (fr e), .own ((acc ++ hits p pr s e t).map bt), .val (.int t), .val (fr (p * t)), .val (fr b.1), .val (.str b.2), .val (fr (p * t + b.1))]) (st := st) (i := 3) (p := PV.tup [fr (p * t + b.1), .str b.2]) hlt
            rw [hh]
            simp only [List.map_append, List.append_assoc] at ka ⊢
            simp [e8, e9, e10, hc1, hc2, ka, bt]) (ρ := [.val (rhy p bs), .val (fr s), .val (fr e), .own (acc.map bt), .val (.int t), .val (fr (p * t)), c6, c7, c8]) ⟨c6, c7, c8, by unfold hits; simp⟩
      refine ⟨_, _, rfl, .inl ?_, .val (.int t), .val (fr (p * t)), d6, d7, d8, by rw [List.flatMap_append, hacc]⟩
      have a1 : ∀ x : SV, eAttr 0 "size" (eVar 0) [.val (rhy p bs), .val (fr s), .val (fr e), .own (acc.map bt), .val (.int t), x, c6, c7, c8] st = .ok (fr p) st := fun _ => rfl
      have a2 : ∀ x : SV, eAttr 0 "row" (eVar 0) [.val (rhy p bs), .val (fr s), .val (fr e), .own (acc.map bt), .val (.int t), x, c6, c7, c8] st = .ok (.tup (bs.map bt)) st := fun _ => rfl
      simp [-eAttr_ev, a1, a2, e6, e7]) (ρ := [.val (rhy p bs), .val (fr s), .val (fr e), .own [], .un, .un, .un, .un, .un]) ⟨_, _, _, _, _, rfl⟩
  unfold b117
  have a1 : eAttr 0 "size" (eVar 0) [.val (rhy p bs), .val (fr s), .val (fr e), .own [], .un, .un, .un, .un, .un] st = .ok (fr p) st := rfl
  simp [-eAttr_ev, a1, e1, e2, e3, e4, er, e5]
end
end BP
set_option Elab.async false
set_option linter.all false
set_option maxRecDepth 100000
set_option maxHeartbeats 4000000
/-! S4: strokes: moved, once, beats_of. -/
namespace BP
open BR PySem
section
variable {T : Nat → Option Fn} {k : Nat} {st : Store} {ρ : BR.Env}
theorem moved_ok (h : Has T [65, 67, 69, 92]) (hk : 3 < k) {xs : List Beat} {d : Rat} (hx : ∀ x ∈ xs, Fit 4000 x.1) (hd : Fit 4000 d) (hl : xs.length ≤ lim) :
    runFn T k 92 [.lst (xs.map bt), fr d] st = .ok (.own ((xs.map fun x => (x.1 + d, x.2)).map bt)) st := by
  rw [run_at (h.at 92) (by omega)]
  have e4 := fLc_map (st := st) (ρ := [.val (.lst (xs.map bt)), .val (fr d), .un, .un]) (w := wItems (eVar 0)) (own := [2, 3]) (g := gTup [gName 2, gName 3])
    (e := eTup (aCons (eFrz (fCall (runFn T (k - 1)) 69 (aCons (eVar 2) (aCons (eVar 1) (aNil))))) (aCons (eVar 3) (aNil)))) bt (fun x => bt (x.1 + d, x.2)) xs (by simp) hl
    (fun y hy => by
      refine ⟨[.val (.lst (xs.map bt)), .val (fr d), .val (fr y.1), .val (.str y.2)], rfl, ?_⟩
      have e := added_ok (k := k - 1) (st := st) (h.sub (R := [65, 67, 69])) (by omega) (hx y hy) hd
      simp [e, bt])
  unfold b92
  simp [e4]
/-! ### dicts of strokes -/
theorem eqv_bt (x y : Beat) : eqv (bt x) (bt y) = decide (x = y) := by
  show (eqv (fr x.1) (fr y.1) && (decide (x.2 = y.2) && true)) = decide (x = y)
  rw [eqv_fr, Bool.and_true, ← Bool.decide_and]
  exact decide_eq_decide.mpr ⟨fun ⟨h1, h2⟩ => Prod.ext h1 h2, fun h => by rw [h]; exact ⟨rfl, rfl⟩⟩
theorem kok_bt (x : Beat) : kok (bt x) = true := rfl
/-- each once, the first of the alike -/
def uniq (xs : List Beat) : List Beat := xs.foldl (fun acc x => if x ∈ acc then acc else acc ++ [x]) []
theorem dPut_bt (x : Beat) : ∀ (acc : List Beat), dPut (bt x) (.bl true) (acc.map bt) (acc.map fun _ => .bl true) = (((if x ∈ acc then acc else acc ++ [x]).map bt), ((if x ∈ acc then acc else acc ++ [x]).map fun _ => .bl true))
  | [] => by simp [dPut]
  | y :: acc => by
    have ih := dPut_bt x acc
    rw [List.map_cons, List.map_cons]
    unfold dPut
    rw [eqv_bt]
    by_cases e : y = x
    · subst e
      rw [decide_eq_true rfl, if_pos rfl, if_pos List.mem_cons_self]
      rfl
    · rw [decide_eq_false e, if_neg Bool.false_ne_true, ih]
      have : (x ∈ y :: acc) ↔ x ∈ acc := ⟨fun q => (List.mem_cons.mp q).elim (fun z => absurd z.symm e) id, List.mem_cons_of_mem _⟩
      by_cases hm : x ∈ acc
      · rw [if_pos hm, if_pos (this.mpr hm)]
        rfl
      · rw [if_neg hm, if_neg (fun z => hm (this.mp z))]
        rfl
theorem dcGo_bt {g : GM} {ek ev : EM} : ∀ (xs acc : List Beat), (∀ x ∈ xs, ∃ ρ1, g (bt x) ρ st = some (ρ1, st) ∧ ek ρ1 st = .ok (bt x) st ∧ ev ρ1 st = .ok (.bl true) st) → acc.length + xs.length ≤ lim →
    dcGo g tYes ek ev ρ (xs.map bt) (acc.map bt) (acc.map fun _ => .bl true) st = .ok (.dct ((xs.foldl (fun acc x => if x ∈ acc then acc else acc ++ [x]) acc).map bt) ((xs.foldl (fun acc x => if x ∈ acc then acc else acc ++ [x]) acc).map fun _ => .bl true)) st
  | [], acc, _, _ => rfl
  | x :: xs, acc, h, hl => by
    obtain ⟨ρ1, h1, h2, h3⟩ := h x List.mem_cons_self
    rw [List.length_cons] at hl
    rw [List.map_cons]
    unfold dcGo
    rw [h1]
    simp only [tYes, noexY, bind_ok, if_true]
    rw [h2, noexY, bind_ok, h3, noexY, bind_ok, kok_bt, List.length_map, decide_eq_true (by omega), Bool.true_and, if_pos rfl, dPut_bt]
    have hll : (if x ∈ acc then acc else acc ++ [x]).length + xs.length ≤ lim := by
      split
      · omega
      · rw [List.length_append, List.length_singleton]; omega
    exact dcGo_bt xs _ (fun y hy => h y (List.mem_cons_of_mem _ hy)) hll
theorem eDc_bt {w : AM} {own : List Nat} {g : GM} {ek ev : EM} {xs : List Beat} (hw : w ρ st = .ok (xs.map bt) st) (h : ∀ x ∈ xs, ∃ ρ1, g (bt x) (wipeE ρ own) st = some (ρ1, st) ∧ ek ρ1 st = .ok (bt x) st ∧ ev ρ1 st = .ok (.bl true) st) (hl : xs.length ≤ lim) :
    eDc w own g tYes ek ev ρ st = .ok (.dct ((uniq xs).map bt) ((uniq xs).map fun _ => .bl true)) st := by
  unfold eDc
  rw [hw, bind_ok]
  exact dcGo_bt xs [] h (by rw [List.length_nil]; omega)
def kListD (p : PV) (st : Store) : R SV := match p with
  | .dct ks _ => .ok (.own ks) st
  | _ => .bad
@[simp] theorem kListD_ev (ks vs) : kListD (.dct ks vs) st = .ok (.own ks) st := rfl
@[simp] theorem fListD_ev (m) : fListD m ρ st = (m ρ st).bind kListD := rfl
theorem uniq_le (xs : List Beat) : (uniq xs).length ≤ xs.length := by
  have : ∀ (xs acc : List Beat), (xs.foldl (fun acc x => if x ∈ acc then acc else acc ++ [x]) acc).length ≤ acc.length + xs.length := fun xs => by
    induction xs with
    | nil => intro acc; exact Nat.le_refl _
    | cons x xs ih =>
      intro acc
      rw [List.foldl_cons, List.length_cons]
      refine Nat.le_trans (ih _) ?_
      split
      · omega
      · rw [List.length_append, List.length_singleton]; omega
  unfold uniq
  exact Nat.le_trans (this xs []) (by rw [List.length_nil]; omega)
theorem once_ok (h : Has T [91, 93]) (hk : 1 < k) {xs : List Beat} (hl : xs.length ≤ lim) (hf : (uniq xs).length ≤ 1000) : runFn T k 93 [.lst (xs.map bt)] st = .ok (.val (.lst ((uniq xs).map bt))) st := by
  rw [run_at (h.at 93) (by omega)]
  have e := eDc_bt (st := st) (ρ := [.val (.lst (xs.map bt)), .un, .un]) (w := wItems (eVar 0)) (own := [2]) (g := gName 2) (ek := eVar 2) (ev := eC (.bl true)) (xs := xs) (by simp) (fun x _ => ⟨_, rfl, rfl, rfl⟩) hl
  have e2 := need_ok (st := st) (k := k - 1) (T := T) h.sub (by omega) (c := ((uniq xs).length : Int)) (by omega)
  unfold b93
  simp [e, e2]
/-! ### beats_of -/
def Txt (s : List Nat) : Prop := s.all (fun c => decide (c < 1114112)) = true
def mrg (acc : List Beat) (x : Beat) : List Beat := match acc.getLast? with
  | some l => if l.1 = x.1 then acc.dropLast ++ [(x.1, l.2 ++ x.2)] else acc ++ [x]
  | none => acc ++ [x]
def beatsOf (xs : List Beat) : List Beat := (isort ltB xs).foldl mrg []
theorem mrg_last (acc : List Beat) (l x : Beat) : mrg (acc ++ [l]) x = if l.1 = x.1 then acc ++ [(x.1, l.2 ++ x.2)] else acc ++ [l] ++ [x] := by
  unfold mrg
  rw [List.getLast?_concat]
  simp only [List.dropLast_concat]
theorem atI_last {α : Type} (acc : List α) (l : α) : L2.atI (acc ++ [l]) (-1) = some l := by
  unfold L2.atI L2.ixN
  rw [if_neg (by decide), List.length_append, List.length_singleton, if_pos (by omega), Option.bind_some, show (-1 + ((acc.length + 1 : Nat) : Int)).toNat = acc.length from by omega, List.getElem?_concat_length]
theorem ixN_last (n : Nat) : L2.ixN (n + 1) (-1) = some n := by
  unfold L2.ixN
  rw [if_neg (by decide), if_pos (by omega), show (-1 + ((n + 1 : Nat) : Int)).toNat = n from by omega]
theorem plain_bt {x : Beat} (h : Txt x.2) : plain 7 (bt x) = true := by
  show (true && true && true && (x.2.all (fun c => decide (c < 1114112)) && true)) = true
  rw [show x.2.all (fun c => decide (c < 1114112)) = true from h]
  rfl
theorem plains_bt : ∀ {acc : List Beat}, (∀ x ∈ acc, Txt x.2) → plains 7 (acc.map bt) = true
  | [], _ => by unfold plains; rfl
  | x :: acc, h => by
    rw [List.map_cons]
    unfold plains
    rw [plain_bt (h x List.mem_cons_self), plains_bt fun y hy => h y (List.mem_cons_of_mem _ hy)]
    rfl
theorem pEq_fr (a b : Rat) : pEq (fr a) (fr b) = some (.bl (decide (a = b))) := by
  unfold pEq
  rw [eqv_fr]
  rfl
theorem isort_len (l : List Beat) : (isort ltB l).length = l.length := by
  have ins : ∀ (x : Beat) (l : List Beat), (insBy ltB x l).length = l.length + 1 := fun x l => by
    induction l with
    | nil => rfl
    | cons y l ih =>
      unfold insBy
      split
      · rw [List.length_cons, ih, List.length_cons]
      · rfl
  induction l with
  | nil => rfl
  | cons x l ih => rw [show isort ltB (x :: l) = insBy ltB x (isort ltB l) from rfl, ins, ih, List.length_cons]
/-- how long the texts are together -/
def txLen (xs : List Beat) : Nat := (xs.map fun x => x.2.length).sum
theorem txLen_isort (l : List Beat) : txLen (isort ltB l) = txLen l := by
  have ins : ∀ (x : Beat) (l : List Beat), txLen (insBy ltB x l) = x.2.length + txLen l := fun x l => by
    induction l with
    | nil => rfl
    | cons y l ih =>
      unfold insBy
      split
      · unfold txLen at ih ⊢
        rw [List.map_cons, List.sum_cons, ih, List.map_cons, List.sum_cons]
        omega
      · rfl
  induction l with
  | nil => rfl
  | cons x l ih => rw [show isort ltB (x :: l) = insBy ltB x (isort ltB l) from rfl, ins, ih]; rfl
/-- what beats_of's loop keeps -/
structure MrgOk (pre acc : List Beat) : Prop where
  len : acc.length ≤ pre.length
  txt : ∀ x ∈ acc, Txt x.2
  tx : txLen acc ≤ txLen pre
theorem Txt.app {a b : List Nat} (ha : Txt a) (hb : Txt b) : Txt (a ++ b) := by
  unfold Txt at *
  rw [List.all_append, ha, hb]
  rfl
theorem txLen_app (a b : List Beat) : txLen (a ++ b) = txLen a + txLen b := by
  unfold txLen
  rw [List.map_append, List.sum_append]
theorem MrgOk.step {pre acc : List Beat} {x : Beat} (h : MrgOk pre acc) (hx : Txt x.2) : MrgOk (pre ++ [x]) (mrg acc x) := by
  have hp : txLen (pre ++ [x]) = txLen pre + x.2.length := by rw [txLen_app]; unfold txLen; simp
  rcases List.eq_nil_or_concat acc with rfl | ⟨a, l, rfl⟩
  · refine ⟨by rw [List.length_append]; show 1 ≤ _; simp, fun y hy => ?_, by rw [hp]; show txLen [x] ≤ _; unfold txLen; simp⟩
    rw [List.mem_singleton.mp hy]
    exact hx
  · rw [List.concat_eq_append] at h ⊢
    have hl := h.txt l (by simp)
    have ht : txLen (a ++ [l]) = txLen a + l.2.length := by rw [txLen_app]; unfold txLen; simp
    have hlen := h.len
    have htx := h.tx
    rw [List.length_append, List.length_singleton] at hlen
    rw [mrg_last]
    split
    · refine ⟨by simp only [List.length_append, List.length_singleton]; omega, fun y hy => ?_, ?_⟩
      · rcases List.mem_append.mp hy with q | q
        · exact h.txt y (by simp [q])
        · rw [List.mem_singleton.mp q]
          exact hl.app hx
      · have : txLen (a ++ [(x.1, l.2 ++ x.2)]) = txLen a + (l.2.length + x.2.length) := by rw [txLen_app]; unfold txLen; simp
        omega
    · refine ⟨by simp only [List.length_append, List.length_singleton]; omega, fun y hy => ?_, ?_⟩
      · rcases List.mem_append.mp hy with q | q
        · exact h.txt y q
        · rw [List.mem_singleton.mp q]
          exact hx
      · rw [txLen_app]
        have : txLen [x] = x.2.length := by unfold txLen; simp
        omega
theorem mrg_one {call : CallT} {pre acc : List Beat} {x : Beat} {v0 : SV} (h : MrgOk pre acc) (hx : Txt x.2) (hl : pre.length < lim) (ht : txLen (pre ++ [x]) ≤ lim) :
    (sIf (tAnd (tVal (eEmpOwn 1 true)) (tVal (eOp2 pEq (eOp2S pIdxS (eIdxOwn 1 (eOp1 pNeg (eC (.int 1)))) (eC (.int 0))) (eVar 2)))) (sSetIx 1 (eTup (aCons (eVar 2) (aCons (eOp2 pAdd (eOp2S pIdxS (eIdxOwn 1 (eOp1 pNeg (eC (.int 1)))) (eC (.int 1))) (eVar 3)) (aNil)))) (eOp1 pNeg (eC (.int 1)))) (sApp 1 (eTup (aCons (eVar 2) (aCons (eVar 3) (aNil)))))) [v0, .own (acc.map bt), .val (fr x.1), .val (.str x.2)] st =
      .next [v0, .own ((mrg acc x).map bt), .val (fr x.1), .val (.str x.2)] st := by
  have pl := plains_bt h.txt
  have hlen := h.len
  have htx := h.tx
  have hp : txLen (pre ++ [x]) = txLen pre + x.2.length := by rw [txLen_app]; unfold txLen; simp
  have e1 : eEmpOwn 1 true [v0, .own (acc.map bt), .val (fr x.1), .val (.str x.2)] st = .ok (.bl (!(acc.map bt).isEmpty)) st := by
    show R.ofOpt (if plains 7 (acc.map bt) = true then some (PV.bl (if true then !(acc.map bt).isEmpty else (acc.map bt).isEmpty)) else none) st = _
    rw [if_pos pl]
    rfl
  have ka : kApp 1 (acc.map bt) [v0, .own (acc.map bt), .val (fr x.1), .val (.str x.2)] (PV.tup [fr x.1, .str x.2]) st = .next [v0, .own (acc.map bt ++ [bt x]), .val (fr x.1), .val (.str x.2)] st := kApp_ev (by rw [List.length_map]; omega)
  rcases List.eq_nil_or_concat acc with rfl | ⟨a, l, rfl⟩
  · simp [e1] at ka ⊢
    rfl
  · rw [List.concat_eq_append] at *
    have ei : ∀ f : PV → Option PV, True := fun _ => trivial
    have e2 : eIdxOwn 1 (eOp1 pNeg (eC (.int 1))) [v0, .own ((a ++ [l]).map bt), .val (fr x.1), .val (.str x.2)] st = .ok (bt l) st := by
      show R.ofOpt (pIdx (.lst ((a ++ [l]).map bt)) (.int (-1))) st = _
      rw [pIdx_lst, List.map_append, List.map_cons, List.map_nil, atI_last]
      rfl
    have e3 : ∀ i, pIdxS (bt l) (.int i) st = L2.atI [fr l.1, .str l.2] i := fun _ => rfl
    have ne : ((a ++ [l]).map bt).isEmpty = false := by simp
    rw [ne] at e1
    rw [mrg_last]
    by_cases hq : l.1 = x.1
    · rw [if_pos hq]
      have pa : pAdd (.str l.2) (.str x.2) = some (.str (l.2 ++ x.2)) := by
        unfold pAdd
        simp only
        rw [if_pos]
        have : txLen (a ++ [l]) = txLen a + l.2.length := by rw [txLen_app]; unfold txLen; simp
        omega
      have hset : ((a ++ [l]).map bt).set a.length (.tup [fr x.1, .str (l.2 ++ x.2)]) = (a ++ [(x.1, l.2 ++ x.2)]).map bt := by
        rw [List.map_append, List.map_append, List.set_append_right _ _ (by simp)]
        simp [bt]
      have hlen2 : ((a ++ [l]).map bt).length = a.length + 1 := by simp
      generalize (a ++ [(x.1, l.2 ++ x.2)]).map bt = M at hset ⊢
      generalize (a ++ [l]).map bt = L at e1 e2 hset hlen2 ⊢
      have hs : sSetIx 1 (eTup (aCons (eVar 2) (aCons (eOp2 pAdd (eOp2S pIdxS (eIdxOwn 1 (eOp1 pNeg (eC (.int 1)))) (eC (.int 1))) (eVar 3)) aNil))) (eOp1 pNeg (eC (.int 1))) [v0, .own L, .val (fr x.1), .val (.str x.2)] st = .next [v0, .own M, .val (fr x.1), .val (.str x.2)] st := by
        have e5 : eTup (aCons (eVar 2) (aCons (eOp2 pAdd (eOp2S pIdxS (eIdxOwn 1 (eOp1 pNeg (eC (.int 1)))) (eC (.int 1))) (eVar 3)) aNil)) [v0, .own L, .val (fr x.1), .val (.str x.2)] st = .ok (.tup [fr x.1, .str (l.2 ++ x.2)]) st := by
          simp [e2, e3, pa]
        unfold sSetIx
        rw [e5, bindS_ok]
        simp only [List.getElem?_cons_succ, List.getElem?_cons_zero, eOp1_ev, eC_ev, bind_ok, kOpt_ev, pNeg_int, ofOpt_some, bindS_ok, hlen2, ixN_last, hset]
        rfl
      simp [e1, e2, e3, pEq_fr, hq] at hs ⊢
      exact hs
    · rw [if_neg hq]
      have hM : (a ++ [l]).map bt ++ [bt x] = (a ++ [l] ++ [x]).map bt := by simp
      rw [hM] at ka
      generalize (a ++ [l] ++ [x]).map bt = M at ka ⊢
      generalize (a ++ [l]).map bt = L at e1 e2 ka ⊢
      simp [e1, e2, e3, pEq_fr, hq, ka]
theorem beats_of_ok (h : Has T [65, 66, 67, 78, 100]) (hk : 3 < k) {xs : List Beat} {D : Nat} (hD : 0 < D) (hD2 : D < 2 ^ 4000) (hx : ∀ x ∈ xs, (x.1.den ∣ D ∧ Fit 4000 x.1) ∧ Txt x.2) (hl : xs.length ≤ lim) (ht : txLen xs ≤ lim) :
    runFn T k 100 [.lst (xs.map bt)] st = .ok (.own ((beatsOf xs).map bt)) st := by
  rw [run_at (h.at 100) (by omega)]
  have e1 := in_order_ok (st := st) (k := k - 1) (T := T) h.sub (by omega) hD hD2 (fun x hx' => (hx x hx').1) hl
  have il := isort_len xs
  have it := txLen_isort xs
  have hm : ∀ y ∈ isort ltB xs, Txt y.2 := fun y hy => (hx y (mem_isort hy)).2
  unfold beatsOf
  generalize isort ltB xs = ys at e1 il it hm
  obtain ⟨ρ', e2, _, c2, c3, rfl⟩ := forGo_pre (st := st) (g := gTup [gName 2, gName 3]) (body := sIf (tAnd (tVal (eEmpOwn 1 true)) (tVal (eOp2 pEq (eOp2S pIdxS (eIdxOwn 1 (eOp1 pNeg (eC (.int 1)))) (eC (.int 0))) (eVar 2)))) (sSetIx 1 (eTup (aCons (eVar 2) (aCons (eOp2 pAdd (eOp2S pIdxS (eIdxOwn 1 (eOp1 pNeg (eC (.int 1)))) (eC (.int 1))) (eVar 3)) (aNil)))) (eOp1 pNeg (eC (.int 1)))) (sApp 1 (eTup (aCons (eVar 2) (aCons (eVar 3) (aNil))))))
    bt ys (fun pre ρ => MrgOk pre (pre.foldl mrg []) ∧ ∃ c2 c3, ρ = [.val (.lst (xs.map bt)), .own ((pre.foldl mrg []).map bt), c2, c3])
    (by
      rintro pre y post _ hy ⟨hmk, c2, c3, rfl⟩
      have hyt := hm y (by rw [hy]; simp)
      have l1 : pre.length < lim := by
        rw [hy, List.length_append, List.length_cons] at il
        omega
      have l2 : txLen (pre ++ [y]) ≤ lim := by
        rw [hy, show pre ++ y :: post = pre ++ [y] ++ post from by simp, txLen_app] at it
        omega
      refine ⟨[.val (.lst (xs.map bt)), .own ((pre.foldl mrg []).map bt), .val (fr y.1), .val (.str y.2)], _, rfl, .inl (mrg_one (call := fun _ _ _ => .bad) hmk hyt l1 l2), ?_, .val (fr y.1), .val (.str y.2), ?_⟩
      · rw [List.foldl_append]
        exact hmk.step hyt
      · rw [List.foldl_append]
        rfl) (ρ := [.val (.lst (xs.map bt)), .own [], .un, .un]) ⟨MrgOk.mk (Nat.le_refl _) (fun _ h => nomatch h) (Nat.le_refl _), .un, .un, rfl⟩
  unfold b100
  simp [e1, e2]
end
end BP
set_option Elab.async false
set_option linter.all false
set_option maxRecDepth 100000
set_option maxHeartbeats 4000000
/-! S5: which values are times, letters, beats. -/
namespace BP
open BR PySem
section
variable {T : Nat → Option Fn} {k : Nat} {st : Store} {ρ : BR.Env} {α : Type}
theorem bls_map (p : α → Bool) : ∀ l : List α, bls? (l.map fun x => .bl (p x)) = some (l.map p)
  | [] => rfl
  | x :: l => by
    rw [List.map_cons]
    unfold bls?
    rw [bls_map p l]
    rfl
theorem nAll_map (p : α → Bool) (l : List α) : nAll [.lst (l.map fun x => .bl (p x))] = some (.bl (l.all p)) := by
  unfold nAll
  simp only
  rw [bls_map, Option.map_some, List.all_map]
  rfl
def kAndE (b : EM) (ρ : BR.Env) (p : PV) (st : Store) : R PV := match p with
  | .bl true => b ρ st
  | .bl false => .ok (.bl false) st
  | _ => .bad
@[simp] theorem kAndE_t (b) : kAndE b ρ (.bl true) st = b ρ st := rfl
@[simp] theorem kAndE_f (b) : kAndE b ρ (.bl false) st = .ok (.bl false) st := rfl
@[simp] theorem eAnd_ev (a b) : eAnd a b ρ st = (a ρ st).bind (kAndE b ρ) := rfl
def kNotE (p : PV) (st : Store) : R PV := match p with
  | .bl b => .ok (.bl (!b)) st
  | _ => .bad
@[simp] theorem kNotE_ev (b) : kNotE (.bl b) st = .ok (.bl (!b)) st := rfl
@[simp] theorem eNot_ev (a) : eNot a ρ st = (a ρ st).bind kNotE := rfl
theorem is_whole_ok (h : Has T [64]) (hk : 0 < k) (i : Int) : runFn T k 64 [.int i] st = .ok (.val (.bl true)) st := by
  rw [run_at (h.at 64) (by omega)]
  unfold b64
  have e1 : pIsI ["int"] (.int i) = some (.bl true) := by kernel_rfl
  have e2 : pIsI ["bool"] (.int i) = some (.bl false) := by kernel_rfl
  simp [e1, e2]
theorem is_fraction_ok (h : Has T [64, 65, 68]) (hk : 1 < k) {q : Rat} (hq : Fit 9000 q) : runFn T k 68 [fr q] st = .ok (.val (.bl true)) st := by
  rw [run_at (h.at 68) (by omega)]
  unfold b68
  have e1 : pIsI ["tuple"] (fr q) = some (.bl true) := by kernel_rfl
  have e2 : ∀ i, runFn T (k - 1) 64 [.int i] st = .ok (.val (.bl true)) st := fun i => is_whole_ok h.sub (by omega) i
  have e3 := common_ok (k := k - 1) (st := st) (T := T) h.sub (by omega) (a := q.num) (b := (q.den : Int)) hq.1 (by simpa using hq.2)
  have e4 : Int.gcd q.num (q.den : Int) = 1 := q.reduced
  rw [e4] at e3
  have e5 : nLenS (fr q) st = some (.int 2) := rfl
  have e6 : 0 < q.den := q.den_pos
  simp [e1, e2, e3, e5, e6]
theorem is_time_ok (h : Has T [64, 65, 68, 105]) (hk : 2 < k) {q : Rat} (hq : Fit 9000 q) : runFn T k 105 [fr q] st = .ok (.val (.bl (decide (0 < q)))) st := by
  rw [run_at (h.at 105) (by omega)]
  unfold b105
  have e := is_fraction_ok (k := k - 1) (st := st) (T := T) h.sub (by omega) hq
  have e2 : (0 : Rat) < q ↔ 0 < q.num := by
    rw [Rat.lt_iff]
    simp
  simp [e, e2]
/-! ### letters -/
/-- ascending letters, one at least -/
def okLet (s : List Nat) : Bool := !s.isEmpty && (s.all fun c => decide (c ∈ [97, 98, 99, 100])) && (s.zip (s.drop 1)).all fun q => decide (q.1 < q.2)
theorem okLet_txt {s : List Nat} (h : okLet s = true) : Txt s := by
  unfold okLet at h
  simp only [Bool.and_eq_true] at h
  refine List.all_eq_true.mpr fun c hc => ?_
  have := of_decide_eq_true (List.all_eq_true.mp h.1.2 c hc)
  refine decide_eq_true ?_
  simp at this
  omega
theorem pIn_one (c : Nat) (s : List Nat) : pIn (.str [c]) (.str s) = some (.bl (decide (c ∈ s))) := rfl
theorem lt_one (a b : Nat) : ([a] < [b]) ↔ a < b := by
  constructor
  · intro h
    cases h with
    | rel h => exact h
    | cons h => cases h
  · exact fun h => .rel h
theorem cut_one (s : List α) : cutG s (some 1) none = s.drop 1 := by
  unfold cutG
  rw [show (some (1 : Int)) = some ((1 : Nat) : Int) from rfl, HT.sIx_nat, HT.sIx_none]
  cases s with
  | nil => rfl
  | cons a l => simp
theorem are_letters_ok (h : Has T [106]) (hk : 0 < k) {s : List Nat} (hs : Txt s) (hl : s.length ≤ lim) : runFn T k 106 [.str s] st = .ok (.val (.bl (okLet s))) st := by
  rw [run_at (h.at 106) (by omega)]
  have e1 : pIsI ["str"] (.str s) = some (.bl true) := by kernel_rfl
  have e2 : pEq (.str s) (.str []) = some (.bl s.isEmpty) := by
    unfold pEq
    have : BR.plain 8 (.str s) = true := by unfold BR.plain; exact hs
    rw [this]
    show some (PV.bl (decide (s = []))) = _
    cases s with
    | nil => rfl
    | cons a l => rfl
  have e3 := fLc_map (st := st) (ρ := [.val (.str s), .un, .un, .un]) (w := wItems (eVar 0)) (own := [3]) (g := gName 3) (e := eOp2 pIn (eVar 3) (eC (.str [97, 98, 99, 100]))) (fun c => PV.str [c]) (fun c => .bl (decide (c ∈ [97, 98, 99, 100]))) s
    (by simp [itemsOf]) hl (fun c _ => ⟨[.val (.str s), .un, .un, .val (.str [c])], rfl, rfl⟩)
  have e4 := nAll_map (fun c => decide (c ∈ [97, 98, 99, 100])) s
  have hz : (s.zip (s.drop 1)).length ≤ lim := by rw [List.length_zip]; omega
  have zs : zipSOf (.str s) (.str (s.drop 1)) = some ((s.zip (s.drop 1)).map fun q => PV.wt [.str [q.1], .str [q.2]]) := by
    unfold zipSOf zipPV strItems
    simp only
    rw [List.zip_map, List.map_map]
    rfl
  have ct : eCutS (eVar 0) (oSome (eC (.int 1))) oNone [.val (.str s), .un, .un, .un] st = .ok (.str (s.drop 1)) st := by
    show R.ofOpt (pCut (.str s) (some 1) none) st = _
    unfold pCut
    simp only
    rw [if_pos hl]
    rw [cut_one]
    rfl
  have e5 := fLc_map (st := st) (ρ := [.val (.str s), .un, .un, .un]) (w := wZipS (eVar 0) (eCutS (eVar 0) (oSome (eC (.int 1))) oNone)) (own := [1, 2]) (g := gTup [gName 1, gName 2]) (e := eOp2 pLt (eVar 1) (eVar 2)) (fun q : Nat × Nat => PV.wt [.str [q.1], .str [q.2]]) (fun q => .bl (decide (q.1 < q.2))) (s.zip (s.drop 1))
    (by
      show (R.ok (PV.str s) st).bind (fun p st1 => (eCutS (eVar 0) (oSome (eC (.int 1))) oNone [.val (.str s), .un, .un, .un] st1).bind fun q st2 => BR.R.ofOpt (zipSOf p q) st2) = _
      rw [bind_ok, ct, bind_ok, zs]
      rfl) hz (fun q _ => ⟨[.val (.str s), .val (.str [q.1]), .val (.str [q.2]), .un], rfl, by
        show R.ofOpt (some (PV.bl (decide ([q.1] < [q.2])))) st = _
        rw [decide_eq_decide.mpr (lt_one q.1 q.2)]
        rfl⟩)
  have e6 := nAll_map (fun q : Nat × Nat => decide (q.1 < q.2)) (s.zip (s.drop 1))
  have ae : (s.all fun c => decide (c ∈ [97, 98, 99, 100])) = s.all fun c => decide (c ∈ [97, 98, 99, 100]) := rfl
  generalize hA : (s.all fun c => decide (c ∈ [97, 98, 99, 100])) = A at e4
  generalize hZ : ((s.zip (s.drop 1)).all fun q => decide (q.1 < q.2)) = Z at e6
  generalize (s.map fun c => PV.bl (decide (c ∈ [97, 98, 99, 100]))) = L1 at e3 e4
  generalize ((s.zip (s.drop 1)).map fun q : Nat × Nat => PV.bl (decide (q.1 < q.2))) = L2 at e5 e6
  unfold b106 okLet
  rw [hA, hZ]
  cases hE : s.isEmpty with
  | true =>
    rw [hE] at e2
    simp [e1, e2]
  | false =>
    rw [hE] at e2
    cases A with
    | false => simp [e1, e2, e3, e4]
    | true => simp [e1, e2, e3, e4, e5, e6]
end
end BP
set_option Elab.async false
set_option linter.all false
set_option maxRecDepth 100000
set_option maxHeartbeats 4000000
/-! S6: are_beats, least_form, Rhythm(..). -/
namespace BP
open BR PySem
section
variable {T : Nat → Option Fn} {k : Nat} {st : Store} {ρ : BR.Env} {α : Type}
def okBeat (b : Beat) : Bool := decide (0 ≤ b.1) && okLet b.2
theorem pIsI_tup (xs : List PV) : pIsI ["tuple"] (.tup xs) = some (.bl true) := by kernel_rfl
theorem le_zero (q : Rat) : (0 ≤ q.num) ↔ 0 ≤ q := by
  rw [Rat.le_iff]
  simp
theorem is_beat_ok (h : Has T [64, 65, 68, 106, 107]) (hk : 2 < k) {b : Beat} (hb : Fit 9000 b.1 ∧ Txt b.2 ∧ b.2.length ≤ lim) : runFn T k 107 [bt b] st = .ok (.val (.bl (okBeat b))) st := by
  rw [run_at (h.at 107) (by omega)]
  have e1 : pIsI ["tuple"] (bt b) = some (.bl true) := pIsI_tup _
  have e2 : nLenS (bt b) st = some (.int 2) := rfl
  have e3 : pIdxS (bt b) (.int 0) st = some (fr b.1) := rfl
  have e4 : pIdxS (bt b) (.int 1) st = some (.str b.2) := rfl
  have e5 := is_fraction_ok (k := k - 1) (st := st) (T := T) h.sub (by omega) hb.1
  have e6 := are_letters_ok (k := k - 1) (st := st) (T := T) h.sub (by omega) hb.2.1 hb.2.2
  unfold b107 okBeat
  by_cases hq : 0 ≤ b.1
  · have hn := (le_zero b.1).mpr hq
    simp [e1, e2, e3, e4, e5, e6, hq, hn]
  · have hn : ¬ 0 ≤ b.1.num := fun z => hq ((le_zero b.1).mp z)
    simp [e1, e2, e3, e4, e5, e6, hq, hn]
def okBeats (bs : List Beat) (e : Rat) : Bool := bs.all okBeat && ((bs.zip (bs.drop 1)).all (fun q => decide (q.1.1 < q.2.1)) && bs.all fun b => decide (b.1 < e))
/-- beats that the evaluator can look at -/
def BOk (n : Nat) (bs : List Beat) : Prop := bs.length ≤ lim ∧ ∀ b ∈ bs, Fit n b.1 ∧ Txt b.2 ∧ b.2.length ≤ lim
theorem are_beats_ok (h : Has T [64, 65, 68, 73, 106, 107, 108]) (hk : 3 < k) {bs : List Beat} {e : Rat} (hb : BOk 9000 bs) (he : Fit 9000 e) : runFn T k 108 [.tup (bs.map bt), fr e] st = .ok (.val (.bl (okBeats bs e))) st := by
  rw [run_at (h.at 108) (by omega)]
  obtain ⟨hl, hb⟩ := hb
  have e1 := fLc_map (st := st) (ρ := [.val (.tup (bs.map bt)), .val (fr e), .un, .un, .un]) (w := wItems (eVar 0)) (own := [2]) (g := gName 2) (e := eFrz (fCall (runFn T (k - 1)) 107 (aCons (eVar 2) (aNil)))) bt (fun b => .bl (okBeat b)) bs (by simp) hl
    (fun b hb' => ⟨[.val (.tup (bs.map bt)), .val (fr e), .val (bt b), .un, .un], rfl, by
      have q := is_beat_ok (k := k - 1) (st := st) (T := T) h.sub (by omega) (hb b hb')
      simp [q]⟩)
  have a1 := nAll_map okBeat bs
  have ct : eCutS (eVar 0) (oSome (eC (.int 1))) oNone [.val (.tup (bs.map bt)), .val (fr e), .un, .un, .un] st = .ok (.tup ((bs.drop 1).map bt)) st := by
    show R.ofOpt (some (PV.tup (cutG (bs.map bt) (some 1) none))) st = _
    rw [cut_one, ← List.map_drop]
    rfl
  have zs : zipOf (.tup (bs.map bt)) (.tup ((bs.drop 1).map bt)) = some ((bs.zip (bs.drop 1)).map fun q => PV.wt [bt q.1, bt q.2]) := by
    unfold zipOf zipPV
    simp only
    rw [List.zip_map, List.map_map]
    rfl
  have e2 := fLc_map (st := st) (ρ := [.val (.tup (bs.map bt)), .val (fr e), .un, .un, .un]) (w := wZip (eVar 0) (eCutS (eVar 0) (oSome (eC (.int 1))) oNone)) (own := [3, 4]) (g := gTup [gName 3, gName 4])
    (e := eFrz (fCall (runFn T (k - 1)) 73 (aCons (eOp2S pIdxS (eVar 3) (eC (.int 0))) (aCons (eOp2S pIdxS (eVar 4) (eC (.int 0))) (aNil))))) (fun q : Beat × Beat => PV.wt [bt q.1, bt q.2]) (fun q => .bl (decide (q.1.1 < q.2.1))) (bs.zip (bs.drop 1))
    (by
      show (R.ok (PV.tup (bs.map bt)) st).bind (kLs2 zipOf _ _) = _
      rw [bind_ok, kLs2_ev, ct, bind_ok, kLs_ev, zs]
      rfl) (by rw [List.length_zip]; omega)
    (fun q hq => ⟨[.val (.tup (bs.map bt)), .val (fr e), .un, .val (bt q.1), .val (bt q.2)], rfl, by
      have m := List.of_mem_zip hq
      have z := is_less_ok (k := k - 1) (st := st) (T := T) h.sub (by omega) (hb q.1 m.1).1 (hb q.2 (List.mem_of_mem_drop m.2)).1
      have p1 : pIdxS (bt q.1) (.int 0) st = some (fr q.1.1) := rfl
      have p2 : pIdxS (bt q.2) (.int 0) st = some (fr q.2.1) := rfl
      simp [p1, p2, z]⟩)
  have a2 := nAll_map (fun q : Beat × Beat => decide (q.1.1 < q.2.1)) (bs.zip (bs.drop 1))
  have e3 := fLc_map (st := st) (ρ := [.val (.tup (bs.map bt)), .val (fr e), .un, .un, .un]) (w := wItems (eVar 0)) (own := [2]) (g := gName 2) (e := eFrz (fCall (runFn T (k - 1)) 73 (aCons (eOp2S pIdxS (eVar 2) (eC (.int 0))) (aCons (eVar 1) (aNil))))) bt (fun b => .bl (decide (b.1 < e))) bs (by simp) hl
    (fun b hb' => ⟨[.val (.tup (bs.map bt)), .val (fr e), .val (bt b), .un, .un], rfl, by
      have z := is_less_ok (k := k - 1) (st := st) (T := T) h.sub (by omega) (hb b hb').1 he
      have p1 : pIdxS (bt b) (.int 0) st = some (fr b.1) := rfl
      simp [p1, z]⟩)
  have a3 := nAll_map (fun b : Beat => decide (b.1 < e)) bs
  unfold b108 okBeats
  generalize (bs.zip (bs.drop 1)).map (fun q : Beat × Beat => PV.bl (decide (q.1.1 < q.2.1))) = L2 at e2 a2
  generalize bs.map (fun b : Beat => PV.bl (decide (b.1 < e))) = L3 at e3 a3
  generalize bs.map (fun b : Beat => PV.bl (okBeat b)) = L1 at e1 a1
  generalize bs.all okBeat = A1 at a1 ⊢
  generalize ((bs.zip (bs.drop 1)).all fun q : Beat × Beat => decide (q.1.1 < q.2.1)) = A2 at a2 ⊢
  generalize (bs.all fun b : Beat => decide (b.1 < e)) = A3 at a3 ⊢
  cases A1 with
  | false => simp [e1, a1]
  | true =>
    cases A2 with
    | false => simp [e1, a1, e2, a2]
    | true => simp [e1, a1, e2, a2, e3, a3]
end
end BP
set_option Elab.async false
set_option linter.all false
set_option maxRecDepth 100000
set_option maxHeartbeats 4000000
/-! S7: comes_round, least_form, Rhythm(..). -/
namespace BP
open BR PySem
section
variable {T : Nat → Option Fn} {k : Nat} {st : Store} {α : Type}
theorem forGo_find {g : GM} {body : SM} (b : α → PV) (c : α → Bool) (v : α → SV) (Q : BR.Env → Prop) : ∀ (ys : List α) (ρ : BR.Env), Q ρ →
    (∀ y ∈ ys, ∀ ρ, Q ρ → ∃ ρ1, g (b y) ρ st = some (ρ1, st) ∧ (c y = false → ∃ ρ2, body ρ1 st = .next ρ2 st ∧ Q ρ2) ∧ (c y = true → body ρ1 st = .ret (v y) st)) →
    (ys.find? c = none → ∃ ρ', forGo g body (ys.map b) ρ st = .next ρ' st ∧ Q ρ') ∧ ∀ y, ys.find? c = some y → forGo g body (ys.map b) ρ st = .ret (v y) st
  | [], ρ, q, _ => ⟨fun _ => ⟨ρ, rfl, q⟩, fun _ h => nomatch h⟩
  | y :: ys, ρ, q, h => by
    obtain ⟨ρ1, h1, h2, h3⟩ := h y List.mem_cons_self ρ q
    rw [List.map_cons, forGo_cons h1, List.find?_cons]
    cases hc : c y with
    | true =>
      refine And.intro (fun e => nomatch e) (fun z e => ?_)
      cases e
      rw [h3 hc, loop_ret]
    | false =>
      obtain ⟨ρ2, e2, q2⟩ := h2 hc
      obtain ⟨r1, r2⟩ := forGo_find b c v Q ys ρ2 q2 fun z hz => h z (List.mem_cons_of_mem _ hz)
      rw [e2, loop_next]
      exact ⟨r1, r2⟩
def bAt (bs : List Beat) (i : Nat) : Beat := bs.getD i (0, [])
theorem bAt_get {bs : List Beat} {i : Nat} (h : i < bs.length) : bs[i]? = some (bAt bs i) := by
  unfold bAt
  rw [List.getD_eq_getElem?_getD, List.getElem?_eq_getElem h, Option.getD_some]
theorem bAt_mem {bs : List Beat} {i : Nat} (h : i < bs.length) : bAt bs i ∈ bs := List.mem_of_getElem? (bAt_get h)
theorem atI_bt {bs : List Beat} {i : Nat} (h : i < bs.length) : L2.atI (bs.map bt) (i : Int) = some (bt (bAt bs i)) := by
  rw [atI_at (by omega) (by rw [List.length_map]; omega), Int.toNat_natCast, List.getElem?_map, bAt_get h]
  rfl
def comesRound (bs : List Beat) (m : Nat) (per : Rat) : Bool := (List.range (bs.length - m)).all fun i => decide ((bAt bs (i + m)).2 = (bAt bs i).2) && decide ((bAt bs (i + m)).1 - (bAt bs i).1 = per)
theorem pNe_fr (a b : Rat) : pNe (fr a) (fr b) = some (.bl (!decide (a = b))) := by
  unfold pNe
  rw [eqv_fr]
  rfl
theorem pNe_str {a b : List Nat} (ha : Txt a) (hb : Txt b) : pNe (.str a) (.str b) = some (.bl (!decide (a = b))) := by
  unfold pNe
  have h1 : BR.plain 8 (.str a) = true := by unfold BR.plain; exact ha
  have h2 : BR.plain 8 (.str b) = true := by unfold BR.plain; exact hb
  rw [h1, h2]
  rfl
theorem enum_bt (bs : List Beat) : ∀ (n j : Nat), j + n ≤ bs.length → enumPV j (((bs.drop j).take n).map bt) = (List.range' j n).map fun i : Nat => PV.wt [.int (i : Int), bt (bAt bs i)]
  | 0, _, _ => by simp [enumPV]
  | n + 1, j, h => by
    rw [List.drop_eq_getElem_cons (show j < bs.length by omega), List.take_succ_cons, List.map_cons, List.range'_succ, List.map_cons]
    unfold enumPV
    rw [enum_bt bs n (j + 1) (by omega)]
    have : bs[j]'(by omega) = bAt bs j := by
      have := bAt_get (show j < bs.length by omega)
      rw [List.getElem?_eq_getElem (by omega)] at this
      exact Option.some.inj this
    rw [this]
theorem cut_neg (s : List α) {m : Nat} (h0 : 0 < m) (h : m ≤ s.length) : cutG s none (some (-(m : Int))) = s.take (s.length - m) := by
  unfold cutG
  have : HT.sIx s.length s.length (some (-(m : Int))) = s.length - m := by
    show (if (-(m : Int)) < 0 then (-(m : Int) + (s.length : Int)).toNat else _) = _
    rw [if_pos (by omega)]
    omega
  rw [this, HT.sIx_none]
  simp
theorem cut_nat (s : List α) (m : Nat) : cutG s none (some (m : Int)) = s.take m := by
  unfold cutG
  rw [HT.sIx_nat, HT.sIx_none, List.drop_zero, Nat.sub_zero]
  rw [Nat.min_def]
  split
  · rfl
  · rw [List.take_length, List.take_of_length_le (by omega)]
theorem comes_round_ok (h : Has T [65, 67, 70, 109]) (hk : 3 < k) {bs : List Beat} {m : Nat} {per : Rat} (hb : BOk 4000 bs) (h0 : 0 < m) (hm : m ≤ bs.length) :
    runFn T k 109 [.tup (bs.map bt), .int (m : Int), fr per] st = .ok (.val (.bl (comesRound bs m per))) st := by
  rw [run_at (h.at 109) (by omega)]
  obtain ⟨hl, hb⟩ := hb
  have ew : wEnumT (eCutS (eVar 0) oNone (oSome (eOp1 pNeg (eVar 1)))) [.val (.tup (bs.map bt)), .val (.int (m : Int)), .val (fr per), .un, .un, .un, .un] st = .ok ((List.range (bs.length - m)).map fun i : Nat => PV.wt [.int (i : Int), bt (bAt bs i)]) st := by
    have : eCutS (eVar 0) oNone (oSome (eOp1 pNeg (eVar 1))) [.val (.tup (bs.map bt)), .val (.int (m : Int)), .val (fr per), .un, .un, .un, .un] st = .ok (.tup ((bs.take (bs.length - m)).map bt)) st := by
      show R.ofOpt (some (PV.tup (cutG (bs.map bt) none (some (-(m : Int)))))) st = _
      rw [cut_neg _ h0 (by rw [List.length_map]; exact hm), List.length_map, List.map_take]
      rfl
    unfold wEnumT
    rw [this, bind_ok]
    simp only
    have := enum_bt bs (bs.length - m) 0 (by omega)
    rw [List.drop_zero] at this
    rw [this, List.range_eq_range']
  obtain ⟨r1, r2⟩ := forGo_find (st := st) (g := gTup [gName 3, gTup [gName 5, gName 6]]) (body := sSeq (sSet 4 (fVal (eOp2S pIdxS (eVar 0) (eOp2 pAdd (eVar 3) (eVar 1))))) (sIf (tOr (tVal (eOp2 pNe (eOp2S pIdxS (eVar 4) (eC (.int 1))) (eVar 6))) (tVal (eOp2 pNe (eFrz (fCall (runFn T (k - 1)) 70 (aCons (eOp2S pIdxS (eVar 4) (eC (.int 0))) (aCons (eVar 5) (aNil))))) (eVar 2)))) (sRet (fVal (eC (.bl false)))) (sNil)))
    (fun i : Nat => PV.wt [.int (i : Int), bt (bAt bs i)]) (fun i => !(decide ((bAt bs (i + m)).2 = (bAt bs i).2) && decide ((bAt bs (i + m)).1 - (bAt bs i).1 = per))) (fun _ => .val (.bl false))
    (fun ρ => ∃ c3 c4 c5 c6, ρ = [.val (.tup (bs.map bt)), .val (.int (m : Int)), .val (fr per), c3, c4, c5, c6]) (List.range (bs.length - m)) [.val (.tup (bs.map bt)), .val (.int (m : Int)), .val (fr per), .un, .un, .un, .un] ⟨_, _, _, _, rfl⟩
    (by
      rintro i hi _ ⟨c3, c4, c5, c6, rfl⟩
      have hi := List.mem_range.mp hi
      obtain ⟨f1, t1, _⟩ := hb _ (bAt_mem (show i < bs.length by omega))
      obtain ⟨f2, t2, _⟩ := hb _ (bAt_mem (show i + m < bs.length by omega))
      have el := less_ok (k := k - 1) (st := st) (T := T) h.sub (by omega) f2 f1
      have ea : L2.atI (bs.map bt) ((i : Int) + (m : Int)) = some (bt (bAt bs (i + m))) := by
        have := atI_bt (show i + m < bs.length by omega)
        rw [← this]
        congr 1
      refine ⟨[.val (.tup (bs.map bt)), .val (.int (m : Int)), .val (fr per), .val (.int (i : Int)), c4, .val (fr (bAt bs i).1), .val (.str (bAt bs i).2)], rfl, ?_, ?_⟩
      all_goals
        generalize bAt bs (i + m) = y at f2 t2 el ea ⊢
        generalize bAt bs i = x at f1 t1 el ⊢
        generalize bs.map bt = L at ea ⊢
        have p0 : pIdxS (bt y) (.int 0) st = some (fr y.1) := rfl
        have p1 : pIdxS (bt y) (.int 1) st = some (.str y.2) := rfl
        intro hc
        simp only [Bool.not_eq_eq_eq_not, Bool.not_false, Bool.not_true, Bool.and_eq_true, decide_eq_true_eq, Bool.and_eq_false_iff, decide_eq_false_iff_not] at hc
      · refine ⟨[.val (.tup L), .val (.int (m : Int)), .val (fr per), .val (.int (i : Int)), .val (bt y), .val (fr x.1), .val (.str x.2)], ?_, _, _, _, _, rfl⟩
        simp [ea, p0, p1, el, pNe_str t1 t1, pNe_fr, hc.1, hc.2]
      · rcases hc with hc | hc
        · simp [ea, p0, p1, el, pNe_str t2 t1, pNe_fr, hc]
        · by_cases hc2 : y.2 = x.2
          · simp [ea, p0, p1, el, pNe_str t2 t1, pNe_str t1 t1, pNe_fr, hc, hc2]
          · simp [ea, p0, p1, el, pNe_str t2 t1, pNe_fr, hc2])
  unfold b109 comesRound
  cases hf : (List.range (bs.length - m)).find? (fun i => !(decide ((bAt bs (i + m)).2 = (bAt bs i).2) && decide ((bAt bs (i + m)).1 - (bAt bs i).1 = per))) with
  | none =>
    obtain ⟨ρ', e, _⟩ := r1 hf
    have : ((List.range (bs.length - m)).all fun i => decide ((bAt bs (i + m)).2 = (bAt bs i).2) && decide ((bAt bs (i + m)).1 - (bAt bs i).1 = per)) = true := by
      refine List.all_eq_true.mpr fun i hi => ?_
      have := List.find?_eq_none.mp hf i hi
      simpa using this
    rw [this]
    simp [ew, e]
  | some i =>
    have e := r2 i hf
    have : ((List.range (bs.length - m)).all fun i => decide ((bAt bs (i + m)).2 = (bAt bs i).2) && decide ((bAt bs (i + m)).1 - (bAt bs i).1 = per)) = false := by
      refine List.all_eq_false.mpr ⟨i, List.mem_of_find?_eq_some hf, ?_⟩
      have := List.find?_some hf
      rw [Bool.not_eq_true'] at this
      rw [this]
      exact Bool.false_ne_true
    rw [this]
    simp [ew, e]
end
end BP
set_option Elab.async false
set_option linter.all false
set_option maxRecDepth 100000
set_option maxHeartbeats 4000000
/-! S8: least_form, Rhythm(..). -/
namespace BP
open BR PySem
section
variable {T : Nat → Option Fn} {k : Nat} {st : Store} {α : Type}
@[simp] theorem wRngD_ev {ρ : BR.Env} (m n) : wRngD m n ρ st = (m ρ st).bind (kLs2 rngDown n ρ) := rfl
def downs (n : Nat) : List Nat := (List.range n).map fun i => n - i
theorem downInts_nums : ∀ (m : Nat) (lo : Int), downInts lo m = (List.range m).map fun i : Nat => PV.int (lo - i)
  | 0, _ => rfl
  | m + 1, lo => by
    unfold downInts
    rw [downInts_nums m (lo - 1), List.range_succ_eq_map, List.map_cons, List.map_map]
    congr 1
    · simp
    · apply List.map_congr_left
      intro a _
      simp only [Function.comp_apply, PV.int.injEq]
      omega
theorem rngDown_ok {n : Nat} (hn : n ≤ lim) : rngDown (.int (n : Int)) (.int 0) = some ((downs n).map fun i : Nat => PV.int (i : Int)) := by
  unfold rngDown
  simp only
  have hlim : lim = 1000000 := rfl
  rw [show big62 (n : Int) = true from decide_eq_true ⟨by omega, by omega⟩, show big62 0 = true from rfl]
  simp only [Bool.and_self, if_true, Int.sub_zero, Int.toNat_natCast, Option.some.injEq]
  rw [downInts_nums]
  unfold downs
  rw [List.map_map]
  apply List.map_congr_left
  intro a ha
  have := List.mem_range.mp ha
  simp only [Function.comp_apply, PV.int.injEq]
  omega
def fits (p : Rat) (bs : List Beat) (m : Nat) : Bool := decide (bs.length / m * m = bs.length) && (decide ((bAt bs (bs.length / m - 1)).1 < p / (m : Rat)) && comesRound bs (bs.length / m) (p / (m : Rat)))
def leastForm (p : Rat) (bs : List Beat) : Rat × List Beat := if bs = [] then (1, []) else match (downs bs.length).find? (fits p bs) with
  | some m => (p / (m : Rat), bs.take (bs.length / m))
  | none => (p, bs)
def lf (x : Rat × List Beat) : PV := .tup [fr x.1, .tup (x.2.map bt)]
theorem nat_rat (m : Nat) : ((m : Int) : Rat) = (m : Rat) := rfl
/-- least_form's turn -/
def lfB (call : CallT) : SM := sIf (tVal (eOp2 pEq (eOp2 pMul (eOp2 pDiv (eVar 2) (eVar 3)) (eVar 3)) (eVar 2))) (sSeq (sPar 4 5 (fVal (eFrz (fCall call 72 (aCons (eVar 0) (aCons (eTup (aCons (eVar 3) (aCons (eC (.int 1)) (aNil)))) (aNil)))))) (fVal (eOp2 pDiv (eVar 2) (eVar 3)))) (sIf (tAnd (tVal (eFrz (fCall call 73 (aCons (eOp2S pIdxS (eOp2S pIdxS (eVar 1) (eOp2 pSub (eVar 5) (eC (.int 1)))) (eC (.int 0))) (aCons (eVar 4) (aNil)))))) (tVal (eFrz (fCall call 109 (aCons (eVar 1) (aCons (eVar 5) (aCons (eVar 4) (aNil)))))))) (sRet (fVal (eTup (aCons (eVar 4) (aCons (eOpN nTuple (aCons (eCutS (eVar 1) (oNone) (oSome (eVar 5))) (aNil))) (aNil)))))) (sNil))) (sNil)
theorem lf_turn (h : Has T [65, 67, 70, 72, 73, 109, 110]) (hk : 4 < k) {p : Rat} {bs : List Beat} (hp : Fit 3900 p) (hb : BOk 4000 bs) {n m : Nat} (hN : bs.length = n) (hl : n ≤ lim) (m0 : 0 < m) (m1 : m ≤ n) (c4 c5 : SV) :
    (fits p bs m = false → ∃ ρ2, lfB (runFn T (k - 1)) [.val (fr p), .val (.tup (bs.map bt)), .val (.int (n : Int)), .val (.int (m : Int)), c4, c5] st = .next ρ2 st ∧ ∃ c3 c4 c5, ρ2 = [.val (fr p), .val (.tup (bs.map bt)), .val (.int (n : Int)), c3, c4, c5]) ∧
    (fits p bs m = true → lfB (runFn T (k - 1)) [.val (fr p), .val (.tup (bs.map bt)), .val (.int (n : Int)), .val (.int (m : Int)), c4, c5] st = .ret (.val (lf (p / (m : Rat), bs.take (n / m)))) st) := by
  have hlim : lim = 1000000 := rfl
  have mI : (0 : Int) < m := by omega
  have sm : small (m : Int) = true := small_of (by omega) (by omega)
  have dm : (n : Int) / (m : Int) = ((n / m : Nat) : Int) := rfl
  have d0 : 0 < n / m := Nat.div_pos m1 m0
  have d1 : n / m ≤ n := Nat.div_le_self _ _
  have sd : small ((n / m : Nat) : Int) = true := small_of (by omega) (by omega)
  have fm : Fit 62 ((m : Int) : Rat) := fit_int (by omega) (by decide)
  have zm : ((m : Int) : Rat) ≠ 0 := fun e => by
    have := congrArg Rat.num e
    have e2 : ((m : Int) : Rat).num = m := rfl
    rw [e2] at this
    have : (m : Int) = 0 := this
    omega
  have e1 := over_ok (k := k - 1) (st := st) (T := T) h.sub (by omega) (hp.mono (by decide)) (fm.mono (by decide)) zm
  have f1 := fit_over hp fm zm
  rw [← fr_int] at e1
  have hx : n / m - 1 < bs.length := by omega
  have e2 := is_less_ok (k := k - 1) (st := st) (T := T) h.sub (by omega) ((hb.2 _ (bAt_mem hx)).1.mono (by decide)) (f1.mono (by decide))
  have e3 := comes_round_ok (k := k - 1) (st := st) (T := T) (m := n / m) (per := p / ((m : Int) : Rat)) h.sub (by omega) hb d0 (by omega)
  have ea : L2.atI (bs.map bt) (((n / m : Nat) : Int) - 1) = some (bt (bAt bs (n / m - 1))) := by
    rw [← atI_bt hx, show (((n / m : Nat) : Int) - 1) = ((n / m - 1 : Nat) : Int) from by omega]
  have ec : ∀ x y z : SV, eCutS (eVar 1) oNone (oSome (eVar 5)) [x, .val (.tup (bs.map bt)), y, z, .val (fr (p / ((m : Int) : Rat))), .val (.int ((n / m : Nat) : Int))] st = .ok (.tup ((bs.take (n / m)).map bt)) st := fun x y z => by
    show R.ofOpt (some (PV.tup (cutG (bs.map bt) none (some ((n / m : Nat) : Int))))) st = _
    rw [cut_nat, List.map_take]
    rfl
  have pd : pDiv (.int (n : Int)) (.int (m : Int)) = some (.int ((n / m : Nat) : Int)) := by rw [pDiv_int mI sm, dm]
  have pm : pMul (.int ((n / m : Nat) : Int)) (.int (m : Int)) = some (.int (((n / m : Nat) : Int) * (m : Int))) := pMul_int sd sm
  have hc : (((n / m : Nat) : Int) * (m : Int) = (n : Int)) ↔ n / m * m = n := by rw [← Int.natCast_mul]; exact Int.ofNat_inj
  unfold fits lf lfB
  rw [hN]
  simp only [nat_rat] at e1 e2 e3 ec f1 ⊢
  generalize comesRound bs (n / m) (p / (m : Rat)) = C at e3 ⊢
  generalize bAt bs (n / m - 1) = y at e2 ea ⊢
  have p0 : pIdxS (bt y) (.int 0) st = some (fr y.1) := rfl
  have nt : nTuple [.tup ((bs.take (n / m)).map bt)] = some (.tup ((bs.take (n / m)).map bt)) := rfl
  generalize (bs.take (n / m)).map bt = M at ec nt ⊢
  generalize bs.map bt = L at e3 ea ec ⊢
  generalize p / (m : Rat) = P at e1 e2 e3 ec ⊢
  generalize n / m = Q at pd pm hc e3 ea ec ⊢
  have cut : sPar 4 5 (fVal (eFrz (fCall (runFn T (k - 1)) 72 (aCons (eVar 0) (aCons (eTup (aCons (eVar 3) (aCons (eC (.int 1)) (aNil)))) (aNil)))))) (fVal (eOp2 pDiv (eVar 2) (eVar 3))) [.val (fr p), .val (.tup L), .val (.int (n : Int)), .val (.int (m : Int)), c4, c5] st = .next [.val (fr p), .val (.tup L), .val (.int (n : Int)), .val (.int (m : Int)), .val (fr P), .val (.int (Q : Int))] st := by
    simp [e1, pd]
  have tq : tVal (eOp2 pEq (eOp2 pMul (eOp2 pDiv (eVar 2) (eVar 3)) (eVar 3)) (eVar 2)) [.val (fr p), .val (.tup L), .val (.int (n : Int)), .val (.int (m : Int)), c4, c5] st = .ok (decide (Q * m = n)) st := by
    simp [pd, pm, hc]
  rw [sIf_ev, tq, bindS_ok]
  by_cases hq : Q * m = n
  · rw [decide_eq_true hq, kIfS_t, sSeq_ev, cut, seq_next]
    by_cases hy : y.1 < P
    · rw [decide_eq_true hy] at e2 ⊢
      cases C with
      | true => exact And.intro (fun z => nomatch z) (fun _ => by simp [ea, p0, e2, e3, ec, nt])
      | false => exact And.intro (fun _ => ⟨[.val (fr p), .val (.tup L), .val (.int (n : Int)), .val (.int (m : Int)), .val (fr P), .val (.int (Q : Int))], by simp [ea, p0, e2, e3], _, _, _, rfl⟩) (fun z => nomatch z)
    · rw [decide_eq_false hy] at e2 ⊢
      exact And.intro (fun _ => ⟨[.val (fr p), .val (.tup L), .val (.int (n : Int)), .val (.int (m : Int)), .val (fr P), .val (.int (Q : Int))], by simp [ea, p0, e2], _, _, _, rfl⟩) (fun z => nomatch z)
  · rw [decide_eq_false hq, kIfS_f]
    exact And.intro (fun _ => ⟨_, rfl, _, _, _, rfl⟩) (fun z => nomatch z)
theorem least_form_ok (h : Has T [65, 67, 70, 72, 73, 109, 110]) (hk : 4 < k) {p : Rat} {bs : List Beat} (hp : Fit 3900 p) (hb : BOk 4000 bs) :
    runFn T k 110 [fr p, .tup (bs.map bt)] st = .ok (.val (lf (leastForm p bs))) st := by
  rw [run_at (h.at 110) (by omega)]
  have hlim : lim = 1000000 := rfl
  unfold leastForm
  by_cases hn : bs = []
  · subst hn
    rw [if_pos rfl]
    unfold b110 lf
    simp
    rfl
  · rw [if_neg hn]
    have hl := hb.1
    have hpos : 0 < bs.length := List.length_pos_iff.mpr hn
    generalize hN : bs.length = n at hl hpos
    have hn0 : ¬ n = 0 := by omega
    have er := rngDown_ok hl
    obtain ⟨r1, r2⟩ := forGo_find (st := st) (g := gName 3) (body := lfB (runFn T (k - 1)))
      (fun i : Nat => PV.int (i : Int)) (fits p bs) (fun m => .val (lf (p / (m : Rat), bs.take (n / m))))
      (fun ρ => ∃ c3 c4 c5, ρ = [.val (fr p), .val (.tup (bs.map bt)), .val (.int (n : Int)), c3, c4, c5]) (downs n) [.val (fr p), .val (.tup (bs.map bt)), .val (.int (n : Int)), .un, .un, .un] ⟨_, _, _, rfl⟩
      (by
        rintro m hm _ ⟨c3, c4, c5, rfl⟩
        obtain ⟨i, hi, rfl⟩ := List.mem_map.mp hm
        have hi := List.mem_range.mp hi
        exact ⟨[.val (fr p), .val (.tup (bs.map bt)), .val (.int (n : Int)), .val (.int ((n - i : Nat) : Int)), c4, c5], rfl, lf_turn h hk hp hb hN hl (by omega) (by omega) c4 c5⟩)
    have hz : (n : Int) ≠ 0 := by omega
    have hlen : nLenS (.tup (bs.map bt)) st = some (.int (n : Int)) := by rw [nLenS_tup, List.length_map, hN]
    have s1 : sIf (tVal (eOp2 pEq (eOp1S nLenS (eVar 1)) (eC (.int 0)))) (sRet (fVal (eTup (aCons (eTup (aCons (eC (.int 1)) (aCons (eC (.int 1)) (aNil)))) (aCons (eTup (aNil)) (aNil)))))) (sNil) [.val (fr p), .val (.tup (bs.map bt)), .un, .un, .un, .un] st = .next [.val (fr p), .val (.tup (bs.map bt)), .un, .un, .un, .un] st := by
      simp [-nLenS_tup, hlen, hn0]
    have s2 : sSet 2 (fVal (eOp1S nLenS (eVar 1))) [.val (fr p), .val (.tup (bs.map bt)), .un, .un, .un, .un] st = .next [.val (fr p), .val (.tup (bs.map bt)), .val (.int (n : Int)), .un, .un, .un] st := by
      simp [-nLenS_tup, hlen]
    have s3 : wRngD (eVar 2) (eC (.int 0)) [.val (fr p), .val (.tup (bs.map bt)), .val (.int (n : Int)), .un, .un, .un] st = .ok ((downs n).map fun i : Nat => PV.int (i : Int)) st := by
      rw [wRngD_ev, show eVar 2 [.val (fr p), .val (.tup (bs.map bt)), .val (.int (n : Int)), .un, .un, .un] st = .ok (.int (n : Int)) st from rfl, bind_ok, kLs2_ev, eC_ev, bind_ok, kLs_ev, er, ofOpt_some]
    unfold lfB at r1 r2
    unfold b110
    show BR.finish (sSeq _ _ [.val (fr p), .val (.tup (bs.map bt)), .un, .un, .un, .un] st) = _
    rw [sSeq_ev, s1, seq_next, sSeq_ev, s2, seq_next, sSeq_ev, sFor_ev, s3, bindS_ok, kFor_ev]
    cases hf : (downs n).find? (fits p bs) with
    | none =>
      obtain ⟨ρ', e, c3, c4, c5, rfl⟩ := r1 hf
      rw [e, seq_next]
      rfl
    | some m =>
      rw [r2 m hf, seq_ret]
      rfl
end
end BP
set_option Elab.async false
set_option linter.all false
set_option maxRecDepth 100000
set_option maxHeartbeats 4000000
/-! S9: Rhythm(period, beats). -/
namespace BP
open BR PySem
section
variable {T : Nat → Option Fn} {k : Nat} {st : Store}
/-- no time twice -/
def Apart (bs : List Beat) : Prop := bs.Pairwise fun a b => a.1 ≠ b.1
theorem dPut_new (x : Beat) : ∀ (acc : List Beat), (∀ y ∈ acc, y.1 ≠ x.1) → dPut (fr x.1) (.str x.2) (acc.map fun b => fr b.1) (acc.map fun b => .str b.2) = ((acc ++ [x]).map (fun b => fr b.1), (acc ++ [x]).map fun b => .str b.2)
  | [], _ => rfl
  | y :: acc, h => by
    have ih := dPut_new x acc fun z hz => h z (List.mem_cons_of_mem _ hz)
    rw [List.map_cons, List.map_cons]
    unfold dPut
    rw [eqv_fr, decide_eq_false (h y List.mem_cons_self), if_neg Bool.false_ne_true, ih]
    rfl
theorem dOf_bt : ∀ (bs acc : List Beat), Apart (acc ++ bs) → dOf (bs.map bt) (acc.map fun b => fr b.1) (acc.map fun b => .str b.2) = some ((acc ++ bs).map (fun b => fr b.1), (acc ++ bs).map fun b => .str b.2)
  | [], acc, _ => by rw [List.append_nil]; rfl
  | x :: bs, acc, h => by
    have hn : ∀ y ∈ acc, y.1 ≠ x.1 := fun y hy => (List.pairwise_append.mp h).2.2 y hy x List.mem_cons_self
    rw [List.map_cons]
    show (if kok (fr x.1) then dOf (bs.map bt) (dPut (fr x.1) (.str x.2) (acc.map fun b => fr b.1) (acc.map fun b => .str b.2)).1 (dPut (fr x.1) (.str x.2) (acc.map fun b => fr b.1) (acc.map fun b => .str b.2)).2 else none) = _
    rw [kok_fr, if_pos rfl, dPut_new x acc hn, dOf_bt bs (acc ++ [x]) (by rw [List.append_assoc]; exact h), List.append_assoc]
    rfl
theorem nDict_bt {bs : List Beat} (h : Apart bs) : nDict [.tup (bs.map bt)] = some (.dct (bs.map fun b => fr b.1) (bs.map fun b => .str b.2)) := by
  have := dOf_bt bs [] h
  show (dOf (bs.map bt) [] []).map _ = _
  rw [show dOf (bs.map bt) [] [] = _ from this]
  rfl
theorem asc_apart : ∀ {bs : List Beat}, ((bs.zip (bs.drop 1)).all fun q => decide (q.1.1 < q.2.1)) = true → bs.Pairwise (fun a b => a.1 < b.1)
  | [], _ => .nil
  | [x], _ => List.pairwise_singleton _ _
  | x :: y :: bs, h => by
    rw [List.drop_succ_cons, List.drop_zero, List.zip_cons_cons, List.all_cons, Bool.and_eq_true, decide_eq_true_eq] at h
    have ih := asc_apart (bs := y :: bs) (by rw [List.drop_succ_cons, List.drop_zero]; exact h.2)
    refine List.pairwise_cons.mpr ⟨fun z hz => ?_, ih⟩
    rcases List.mem_cons.mp hz with e | e
    · rw [e]; exact h.1
    · have := (List.pairwise_cons.mp ih).1 z e
      have h1 := h.1
      grind
theorem okBeats_asc {bs : List Beat} {e : Rat} (h : okBeats bs e = true) : bs.Pairwise (fun a b => a.1 < b.1) := by
  unfold okBeats at h
  simp only [Bool.and_eq_true] at h
  exact asc_apart h.2.1
theorem Pairwise_apart {bs : List Beat} (h : bs.Pairwise (fun a b => a.1 < b.1)) : Apart bs := h.imp fun q e => by rw [e] at q; exact Rat.lt_irrefl q
theorem leastForm_sub (p : Rat) (bs : List Beat) : ∃ n, (leastForm p bs).2 = bs.take n := by
  unfold leastForm
  by_cases hn : bs = []
  · exact ⟨0, by rw [if_pos hn]; rfl⟩
  · rw [if_neg hn]
    cases (downs bs.length).find? (fits p bs) with
    | none => exact ⟨bs.length, (List.take_length).symm⟩
    | some m => exact ⟨_, rfl⟩
theorem leastForm_asc {p : Rat} {bs : List Beat} (h : bs.Pairwise (fun a b => a.1 < b.1)) : (leastForm p bs).2.Pairwise (fun a b => a.1 < b.1) := by
  obtain ⟨n, e⟩ := leastForm_sub p bs
  rw [e]
  exact h.sublist (List.take_sublist _ _)
/-- the instance that __init__ leaves -/
def rhyI (p : Rat) (bs : List Beat) : SV := .ins 0 ["size", "row", "letters_at"] [fr p, .tup (bs.map bt), .dct (bs.map fun b => fr b.1) (bs.map fun b => .str b.2)]
theorem init_ok (h : Has T [64, 65, 67, 68, 70, 72, 73, 105, 106, 107, 108, 109, 110, 111]) (hk : 5 < k) {p : Rat} {bs : List Beat} (hp : Fit 3900 p) (h0 : 0 < p) (hb : BOk 4000 bs) (ho : okBeats bs p = true) :
    runFn T k 111 [fr p, .tup (bs.map bt)] st = .ok (rhyI (leastForm p bs).1 (leastForm p bs).2) st := by
  obtain ⟨m, rfl⟩ : ∃ m, k = m + 1 := ⟨k - 1, by omega⟩
  rw [run_ini (h.at 111) rfl]
  have e1 := is_time_ok (k := m) (st := st) (T := T) h.sub (by omega) (hp.mono (by decide))
  have e2 := are_beats_ok (k := m) (st := st) (T := T) h.sub (by omega) (bs := bs) (e := p) ⟨hb.1, fun b hb' => ⟨(hb.2 b hb').1.mono (by decide), (hb.2 b hb').2⟩⟩ (hp.mono (by decide))
  have e3 := least_form_ok (k := m) (st := st) (T := T) h.sub (by omega) hp hb
  rw [decide_eq_true h0] at e1
  rw [ho] at e2
  have ap := Pairwise_apart (leastForm_asc (p := p) (okBeats_asc ho))
  generalize leastForm p bs = r at e3 ap ⊢
  have ed := nDict_bt ap
  have ei : pIsI ["tuple"] (.tup (bs.map bt)) = some (.bl true) := pIsI_tup _
  have s1 : sIf (tNot (tVal (eFrz (fCall (runFn T m) 105 (aCons (eVar 1) (aNil)))))) (sRaise0 5) (sNil) [.ins 0 [] [], .val (fr p), .val (.tup (bs.map bt))] st = .next [.ins 0 [] [], .val (fr p), .val (.tup (bs.map bt))] st := by simp [e1]
  have s2 : sIf (tOr (tNot (tVal (eOp1 (pIsI ["tuple"]) (eVar 2)))) (tNot (tVal (eFrz (fCall (runFn T m) 108 (aCons (eVar 2) (aCons (eVar 1) (aNil)))))))) (sRaise0 6) (sNil) [.ins 0 [] [], .val (fr p), .val (.tup (bs.map bt))] st = .next [.ins 0 [] [], .val (fr p), .val (.tup (bs.map bt))] st := by simp [e2, ei]
  have s3 : sAsg (eFrz (fCall (runFn T m) 110 (aCons (eVar 1) (aCons (eVar 2) (aNil))))) (gTup [gSelf 0 0 "size", gSelf 0 0 "row"]) [.ins 0 [] [], .val (fr p), .val (.tup (bs.map bt))] st = .next [.ins 0 ["size", "row"] [fr r.1, .tup (r.2.map bt)], .val (fr p), .val (.tup (bs.map bt))] st := by
    have : eFrz (fCall (runFn T m) 110 (aCons (eVar 1) (aCons (eVar 2) (aNil)))) [.ins 0 [] [], .val (fr p), .val (.tup (bs.map bt))] st = .ok (lf r) st := by simp [e3]
    rw [sAsg_ev, this, bindS_ok]
    rfl
  have s4 : sSelf 0 0 "letters_at" (eOpN nDict (aCons (eSelf 0 0 "row") (aNil))) [.ins 0 ["size", "row"] [fr r.1, .tup (r.2.map bt)], .val (fr p), .val (.tup (bs.map bt))] st = .next [rhyI r.1 r.2, .val (fr p), .val (.tup (bs.map bt))] st := by
    have : eOpN nDict (aCons (eSelf 0 0 "row") (aNil)) [.ins 0 ["size", "row"] [fr r.1, .tup (r.2.map bt)], .val (fr p), .val (.tup (bs.map bt))] st = .ok (.dct (r.2.map fun b => fr b.1) (r.2.map fun b => .str b.2)) st := by
      show R.ofOpt (nDict [.tup (r.2.map bt)]) st = _
      rw [ed]
      rfl
    unfold sSelf
    rw [this, bindS_ok]
    rfl
  unfold b111
  show finishI (sSeq _ _ [.ins 0 [] [], .val (fr p), .val (.tup (bs.map bt))] st) = _
  rw [sSeq_ev, s1, seq_next, sSeq_ev, s2, seq_next, sSeq_ev, s3, seq_next, s4]
  rfl
/-- Rhythm(..) as a value -/
theorem make_ok {ρ : BR.Env} {call : CallT} {a : AM} {p : PV} {q : PV} {P : Rat} {bs : List Beat} (ha : a ρ st = .ok [p, q] st) (hc : call 111 [p, q] st = .ok (rhyI P bs) st) : fMake call 111 false a ρ st = .ok (.val (rhy P bs)) st := by
  rw [fMake_ev, ha, bind_ok, kMake_ev, hc, bind_ok]
  rfl
end
end BP
set_option Elab.async false
set_option linter.all false
set_option maxRecDepth 100000
set_option maxHeartbeats 4000000
/-! S10: the order of strokes: beats_of strokes that are each once are beats. -/
namespace BP
open BR PySem
/-- not behind -/
def leB (a b : Beat) : Prop := ltB b a = false
theorem ltB_iff (a b : Beat) : ltB a b = true ↔ a.1 < b.1 ∨ (a.1 = b.1 ∧ a.2 < b.2) := by
  unfold ltB
  by_cases h : a.1 = b.1
  · rw [if_pos h, decide_eq_true_eq]
    constructor
    · exact fun q => .inr ⟨h, q⟩
    · rintro (q | q)
      · rw [h] at q; exact absurd q Rat.lt_irrefl
      · exact q.2
  · rw [if_neg h, decide_eq_true_eq]
    constructor
    · exact fun q => .inl q
    · rintro (q | q)
      · exact q
      · exact absurd q.1 h
theorem leB_iff (a b : Beat) : leB a b ↔ a.1 < b.1 ∨ (a.1 = b.1 ∧ a.2 ≤ b.2) := by
  unfold leB
  rw [← Bool.not_eq_true, ltB_iff]
  have hl : ¬ b.2 < a.2 ↔ a.2 ≤ b.2 := List.not_lt
  rw [← hl]
  by_cases h1 : a.1 < b.1
  · have h2 : ¬ b.1 < a.1 := by grind
    have h3 : ¬ b.1 = a.1 := by grind
    simp [h1, h2, h3]
  · by_cases h2 : a.1 = b.1
    · have h3 : ¬ b.1 < a.1 := by grind
      simp [h1, h2, h3]
    · have h3 : b.1 < a.1 := by grind
      simp [h1, h2, h3]
theorem leB_trans {a b c : Beat} (h1 : leB a b) (h2 : leB b c) : leB a c := by
  rw [leB_iff] at *
  rcases h1 with h1 | ⟨h1, g1⟩
  · rcases h2 with h2 | ⟨h2, g2⟩
    · exact .inl (by grind)
    · exact .inl (by grind)
  · rcases h2 with h2 | ⟨h2, g2⟩
    · exact .inl (by grind)
    · exact .inr ⟨by grind, List.le_trans g1 g2⟩
theorem leB_of_lt {a b : Beat} (h : ltB a b = true) : leB a b := by
  rw [leB_iff]
  rw [ltB_iff] at h
  rcases h with h | ⟨h, g⟩
  · exact .inl h
  · exact .inr ⟨h, List.le_of_lt g⟩
theorem insBy_sorted {x : Beat} : ∀ {l : List Beat}, l.Pairwise leB → (insBy ltB x l).Pairwise leB
  | [], _ => List.pairwise_singleton _ _
  | y :: l, h => by
    obtain ⟨h1, h2⟩ := List.pairwise_cons.mp h
    unfold insBy
    cases hc : ltB y x with
    | true =>
      rw [if_pos rfl]
      refine List.pairwise_cons.mpr ⟨fun z hz => ?_, insBy_sorted h2⟩
      rcases mem_insBy hz with e | e
      · rw [e]; exact leB_of_lt hc
      · exact h1 z e
    | false =>
      rw [if_neg Bool.false_ne_true]
      refine List.pairwise_cons.mpr ⟨fun z hz => ?_, h⟩
      rcases List.mem_cons.mp hz with e | e
      · rw [e]; exact hc
      · exact leB_trans hc (h1 z e)
theorem isort_sorted : ∀ (l : List Beat), (isort ltB l).Pairwise leB
  | [] => .nil
  | x :: l => insBy_sorted (isort_sorted l)
theorem insBy_perm (x : Beat) : ∀ (l : List Beat), (insBy ltB x l).Perm (x :: l)
  | [] => .refl _
  | y :: l => by
    unfold insBy
    split
    · exact ((insBy_perm x l).cons y).trans (.swap x y l)
    · exact .refl _
theorem isort_perm : ∀ (l : List Beat), (isort ltB l).Perm l
  | [] => .refl _
  | x :: l => (insBy_perm x _).trans ((isort_perm l).cons x)
theorem isort_strict {l : List Beat} (h : l.Nodup) : (isort ltB l).Pairwise fun a b => ltB a b = true := by
  have hn : (isort ltB l).Nodup := (isort_perm l).nodup_iff.mpr h
  have := (isort_sorted l).and hn
  refine this.imp ?_
  rintro a b ⟨h1, h2⟩
  rw [ltB_iff]
  rw [leB_iff] at h1
  rcases h1 with h1 | ⟨h1, g⟩
  · exact .inl h1
  · refine .inr ⟨h1, ?_⟩
    rcases Decidable.em (a.2 < b.2) with q | q
    · exact q
    · exact absurd (Prod.ext h1 (List.le_antisymm g (List.not_lt.mp q))) h2
theorem uniq_nodup (xs : List Beat) : (uniq xs).Nodup := by
  have : ∀ (xs acc : List Beat), acc.Nodup → (xs.foldl (fun acc x => if x ∈ acc then acc else acc ++ [x]) acc).Nodup := fun xs => by
    induction xs with
    | nil => intro acc h; exact h
    | cons x xs ih =>
      intro acc h
      rw [List.foldl_cons]
      refine ih _ ?_
      split
      · exact h
      · rename_i hx
        rw [List.nodup_append]
        exact ⟨h, by simp, fun a ha b hb e => hx (by rw [List.mem_singleton.mp hb] at e; rw [← e]; exact ha)⟩
  exact this xs [] .nil
theorem uniq_mem {xs : List Beat} {x : Beat} : x ∈ uniq xs ↔ x ∈ xs := by
  have : ∀ (xs acc : List Beat), x ∈ (xs.foldl (fun acc x => if x ∈ acc then acc else acc ++ [x]) acc) ↔ x ∈ acc ∨ x ∈ xs := fun xs => by
    induction xs with
    | nil => intro acc; simp
    | cons y xs ih =>
      intro acc
      rw [List.foldl_cons, ih]
      by_cases hy : y ∈ acc
      · rw [if_pos hy, List.mem_cons]
        constructor
        · rintro (q | q)
          · exact .inl q
          · exact .inr (.inr q)
        · rintro (q | q | q)
          · exact .inl q
          · rw [q]; exact .inl hy
          · exact .inr q
      · rw [if_neg hy, List.mem_append, List.mem_singleton, List.mem_cons, or_assoc]
  have := this xs []
  simpa [uniq] using this
theorem zip_all {α : Type} {p : α × α → Bool} {R : α → α → Prop} (hp : ∀ a b, R a b → p (a, b) = true) : ∀ {s : List α}, s.Pairwise R → (s.zip (s.drop 1)).all p = true
  | [], _ => rfl
  | [x], _ => rfl
  | x :: y :: s, h => by
    obtain ⟨h1, h2⟩ := List.pairwise_cons.mp h
    rw [List.drop_succ_cons, List.drop_zero, List.zip_cons_cons, List.all_cons, hp x y (h1 y List.mem_cons_self), Bool.true_and]
    have := zip_all hp h2
    rwa [List.drop_succ_cons, List.drop_zero] at this
theorem asc_nat : ∀ {s : List Nat}, ((s.zip (s.drop 1)).all fun q => decide (q.1 < q.2)) = true → s.Pairwise (fun a b => a < b)
  | [], _ => .nil
  | [x], _ => List.pairwise_singleton _ _
  | x :: y :: bs, h => by
    rw [List.drop_succ_cons, List.drop_zero, List.zip_cons_cons, List.all_cons, Bool.and_eq_true, decide_eq_true_eq] at h
    have ih := asc_nat (s := y :: bs) (by rw [List.drop_succ_cons, List.drop_zero]; exact h.2)
    refine List.pairwise_cons.mpr ⟨fun z hz => ?_, ih⟩
    rcases List.mem_cons.mp hz with e | e
    · rw [e]; exact h.1
    · exact Nat.lt_trans h.1 ((List.pairwise_cons.mp ih).1 z e)
abbrev Abcd (c : Nat) : Prop := c ∈ [97, 98, 99, 100]
theorem okLet_iff (s : List Nat) : okLet s = true ↔ s ≠ [] ∧ (∀ c ∈ s, Abcd c) ∧ s.Pairwise (fun a b => a < b) := by
  unfold okLet
  simp only [Bool.and_eq_true, Bool.not_eq_true', List.isEmpty_eq_false_iff]
  constructor
  · rintro ⟨⟨h1, h2⟩, h3⟩
    exact ⟨h1, fun c hc => of_decide_eq_true (List.all_eq_true.mp h2 c hc), asc_nat h3⟩
  · rintro ⟨h1, h2, h3⟩
    exact ⟨⟨h1, List.all_eq_true.mpr fun c hc => decide_eq_true (h2 c hc)⟩, zip_all (fun a b q => decide_eq_true q) h3⟩
theorem okLet_add {s : List Nat} {c d : Nat} (h : okLet (s ++ [c]) = true) (hd : Abcd d) (l : c < d) : okLet (s ++ [c] ++ [d]) = true := by
  rw [okLet_iff] at *
  obtain ⟨_, h2, h3⟩ := h
  refine ⟨by simp, fun e he => ?_, ?_⟩
  · rcases List.mem_append.mp he with q | q
    · exact h2 e q
    · rw [List.mem_singleton.mp q]; exact hd
  · refine List.pairwise_append.mpr ⟨h3, List.pairwise_singleton _ _, fun a ha b hb => ?_⟩
    rw [List.mem_singleton.mp hb]
    rcases List.mem_append.mp ha with q | q
    · have := (List.pairwise_append.mp h3).2.2 a q c (by simp)
      omega
    · rw [List.mem_singleton.mp q]; exact l
theorem okLet_one {c : Nat} (h : Abcd c) : okLet [c] = true := by
  rw [okLet_iff]
  exact ⟨by simp, fun d hd => by rw [List.mem_singleton.mp hd]; exact h, List.pairwise_singleton _ _⟩
/-- a stroke: one letter, not ahead of 0 -/
def Sg (x : Beat) : Prop := 0 ≤ x.1 ∧ ∃ c, x.2 = [c] ∧ Abcd c
/-- ascending beats, each at a time of P -/
structure Asc (P : Rat → Prop) (r : List Beat) : Prop where
  asc : r.Pairwise fun a b => a.1 < b.1
  ok : ∀ b ∈ r, okBeat b = true ∧ P b.1
theorem mrg_fold {P : Rat → Prop} : ∀ (ys a : List Beat) (t : Rat) (s : List Nat) (c : Nat), Asc P (a ++ [(t, s ++ [c])]) → ((t, [c]) :: ys).Pairwise (fun a b => ltB a b = true) → (∀ y ∈ ys, Sg y ∧ P y.1) → Asc P (ys.foldl mrg (a ++ [(t, s ++ [c])]))
  | [], _, _, _, _, h, _, _ => h
  | y :: ys, a, t, s, c, h, hp, hy => by
    obtain ⟨⟨y0, d, ed, hd⟩, hP⟩ := hy y List.mem_cons_self
    obtain ⟨ty, sy⟩ := y
    simp only at ed y0 hP
    subst ed
    obtain ⟨p1, p2⟩ := List.pairwise_cons.mp hp
    have lt := (ltB_iff _ _).mp (p1 (ty, [d]) List.mem_cons_self)
    simp only at lt
    have ok := h.ok (t, s ++ [c]) (by simp)
    have okt := ok.1
    unfold okBeat at okt
    simp only [Bool.and_eq_true, decide_eq_true_eq] at okt
    rw [List.foldl_cons, mrg_last]
    by_cases hq : t = ty
    · subst hq
      rw [if_pos rfl]
      have hcd : c < d := by
        rcases lt with q | q
        · exact absurd q Rat.lt_irrefl
        · exact (lt_one c d).mp q.2
      have hok : okLet (s ++ [c] ++ [d]) = true := okLet_add okt.2 hd hcd
      refine mrg_fold ys a t (s ++ [c]) d ⟨?_, ?_⟩ p2 fun z hz => hy z (List.mem_cons_of_mem _ hz)
      · obtain ⟨q1, q2, q3⟩ := List.pairwise_append.mp h.asc
        exact List.pairwise_append.mpr ⟨q1, List.pairwise_singleton _ _, fun u hu v hv => by
          rw [List.mem_singleton.mp hv]
          exact q3 u hu (t, s ++ [c]) (by simp)⟩
      · intro b hb
        rcases List.mem_append.mp hb with q | q
        · exact h.ok b (List.mem_append_left _ q)
        · rw [List.mem_singleton.mp q]
          refine ⟨?_, hP⟩
          unfold okBeat
          simp only [Bool.and_eq_true, decide_eq_true_eq]
          exact ⟨y0, hok⟩
    · rw [if_neg hq]
      have htt : t < ty := by
        rcases lt with q | q
        · exact q
        · exact absurd q.1 hq
      have := mrg_fold ys (a ++ [(t, s ++ [c])]) ty [] d ⟨?_, ?_⟩ p2 fun z hz => hy z (List.mem_cons_of_mem _ hz)
      · exact this
      · obtain ⟨q1, q2, q3⟩ := List.pairwise_append.mp h.asc
        refine List.pairwise_append.mpr ⟨h.asc, List.pairwise_singleton _ _, fun u hu v hv => ?_⟩
        rw [List.mem_singleton.mp hv]
        rcases List.mem_append.mp hu with q | q
        · have := q3 u q (t, s ++ [c]) (by simp)
          simp only at this ⊢
          grind
        · rw [List.mem_singleton.mp q]
          exact htt
      · intro b hb
        rcases List.mem_append.mp hb with q | q
        · exact h.ok b q
        · rw [List.mem_singleton.mp q]
          refine ⟨?_, hP⟩
          unfold okBeat
          simp only [Bool.and_eq_true, decide_eq_true_eq]
          exact ⟨y0, okLet_one hd⟩
theorem beatsOf_asc {P : Rat → Prop} {xs : List Beat} (h : ∀ x ∈ xs, Sg x ∧ P x.1) (hn : xs.Nodup) : Asc P (beatsOf xs) := by
  unfold beatsOf
  have hs := isort_strict hn
  have hm : ∀ y ∈ isort ltB xs, Sg y ∧ P y.1 := fun y hy => h y (mem_isort hy)
  cases e : isort ltB xs with
  | nil => exact ⟨.nil, fun b hb => nomatch hb⟩
  | cons y ys =>
    rw [e] at hs hm
    obtain ⟨⟨y0, d, ed, hd⟩, hP⟩ := hm y List.mem_cons_self
    obtain ⟨ty, sy⟩ := y
    simp only at ed y0 hP
    subst ed
    have := mrg_fold (P := P) ys [] ty [] d ⟨List.pairwise_singleton _ _, fun b hb => by
      rw [List.mem_singleton.mp hb]
      refine ⟨?_, hP⟩
      unfold okBeat
      simp only [Bool.and_eq_true, decide_eq_true_eq]
      exact ⟨y0, okLet_one hd⟩⟩ hs fun z hz => hm z (List.mem_cons_of_mem _ hz)
    exact this
theorem Asc.beats {e : Rat} {r : List Beat} (h : Asc (fun t => t < e) r) : okBeats r e = true := by
  unfold okBeats
  rw [List.all_eq_true.mpr fun b hb => (h.ok b hb).1, zip_all (fun a b q => decide_eq_true q) h.asc, List.all_eq_true.mpr fun b hb => decide_eq_true (h.ok b hb).2]
  rfl
end BP
set_option Elab.async false
set_option linter.all false
set_option maxRecDepth 100000
set_option maxHeartbeats 4000000
/-! S11: together, strokes_to, both_of. -/
namespace BP
open BR PySem
section
variable {T : Nat → Option Fn} {k : Nat} {st : Store}
theorem mem_betw {p s e : Rat} {bs : List Beat} {x : Beat} (h : x ∈ betw p bs s e) : ∃ t b, (s / p).floor ≤ t ∧ t < (s / p).floor + ((e / p).ceil - (s / p).floor).toNat ∧ b ∈ bs ∧ x = (p * t + b.1, b.2) ∧ ¬ x.1 < s ∧ x.1 < e := by
  unfold betw at h
  obtain ⟨t, ht, hx⟩ := List.mem_flatMap.mp h
  unfold hits at hx
  obtain ⟨h1, h2⟩ := List.mem_filter.mp hx
  obtain ⟨b, hb, e1⟩ := List.mem_map.mp h1
  simp only [Bool.and_eq_true, Bool.not_eq_true', decide_eq_true_eq, decide_eq_false_iff_not] at h2
  have q := mem_nums ht
  exact ⟨t, b, q.1, q.2, hb, e1.symm, h2.1, h2.2⟩
theorem flatMap_le {α β : Type} (f : α → List β) (m : Nat) : ∀ (l : List α), (∀ x ∈ l, (f x).length ≤ m) → (l.flatMap f).length ≤ l.length * m
  | [], _ => by simp
  | x :: l, h => by
    have := flatMap_le f m l fun y hy => h y (List.mem_cons_of_mem _ hy)
    have := h x List.mem_cons_self
    rw [List.flatMap_cons, List.length_append, List.length_cons, Nat.succ_mul]
    omega
theorem betw_le {p s e : Rat} {bs : List Beat} : (betw p bs s e).length ≤ ((e / p).ceil - (s / p).floor).toNat * bs.length := by
  unfold betw
  have := flatMap_le (hits p bs s e) bs.length (nums (s / p).floor ((e / p).ceil - (s / p).floor).toNat) fun t _ => by
    unfold hits
    exact Nat.le_trans (List.length_filter_le _ _) (by rw [List.length_map]; exact Nat.le_refl _)
  rwa [show (nums (s / p).floor ((e / p).ceil - (s / p).floor).toNat).length = ((e / p).ceil - (s / p).floor).toNat from by unfold nums; rw [List.length_map, List.length_range]] at this
theorem look_txt {bs : List Beat} {t : Rat} (h : ∀ b ∈ bs, Txt b.2) : Txt (look bs t) := by
  unfold look
  cases e : bs.find? (fun b => decide (b.1 = t)) with
  | none => rfl
  | some b => exact h b (List.mem_of_find?_eq_some e)
theorem together_ok (h : Has T [65, 67, 69, 70, 71, 72, 73, 74, 75, 77, 116, 117, 131]) (hk : 6 < k) {p q D : Rat} {bs cs : List Beat} (hc : runFn T (k - 1) 125 [rhy p bs, rhy q cs] st = .ok (.val (fr D)) st)
    (hp : Fit 400 p) (hz : p ≠ 0) (hq : Fit 1000 q) (hqz : q ≠ 0) (hD : Fit 1000 D) (hb : ∀ b ∈ bs, Fit 400 b.1) (hcs : ∀ b ∈ cs, Txt b.2) (h2 : -(2 ^ 62) ≤ (D / p).ceil ∧ (D / p).ceil < 2 ^ 62) (hl : (betw p bs 0 D).length ≤ lim) :
    runFn T k 131 [rhy p bs, rhy q cs] st = .ok (.val (.tup [fr D, .tup (((betw p bs 0 D).filter fun x => !decide (look cs (rbey x.1 q) = [])).map fun x => fr x.1)])) st := by
  rw [run_at (h.at 131) (by omega)]
  have z0 : (0 : Rat) / p = 0 := by grind
  have f0 : ((0 : Rat) / p).floor = 0 := by rw [z0]; rfl
  have e1 := between_ok (k := k - 1) (st := st) (T := T) (p := p) (s := 0) (e := D) (bs := bs) h.sub (by omega) (hp.mono (by decide)) hz (fit_zero (by decide)) hD (fun b hb' => (hb b hb').mono (by decide)) (by rw [f0]; decide) h2 hl
  have ez : PV.tup [.int 0, .int 1] = fr 0 := rfl
  have fx : ∀ x ∈ betw p bs 0 D, Fit 1000 x.1 := fun x hx => by
    obtain ⟨t, b, t0, t1, hb', ex, _, _⟩ := mem_betw hx
    rw [f0] at t0 t1
    rw [ex]
    exact (fit_add (fit_mul hp (fit_int (m := 63) (by omega) (by decide))) (hb b hb')).mono (by decide)
  generalize betw p bs 0 D = xs at e1 fx hl ⊢
  have e2 := fLc_of (st := st) (ρ := [.val (rhy p bs), .val (rhy q cs), .val (fr D), .un, .un, .un]) (w := wItems (eFrz (fMeth (runFn T (k - 1)) 117 0 "between" (eVar 0) (aCons (eTup (aCons (eC (.int 0)) (aCons (eC (.int 1)) (aNil)))) (aCons (eVar 2) (aNil)))))) (own := [4, 5]) (g := gTup [gName 4, gName 5])
    (t := tVal (eOp2 pNe (eFrz (fMeth (runFn T (k - 1)) 116 0 "sound" (eVar 1) (aCons (eVar 4) (aNil)))) (eC (.str [])))) (e := eVar 4) bt (fun x => !decide (look cs (rbey x.1 q) = [])) (fun x => fr x.1) xs
    (by
      have em : fMeth (runFn T (k - 1)) 117 0 "between" (eVar 0) (aCons (eTup (aCons (eC (.int 0)) (aCons (eC (.int 1)) (aNil)))) (aCons (eVar 2) (aNil))) [.val (rhy p bs), .val (rhy q cs), .val (fr D), .un, .un, .un] st = runFn T (k - 1) 117 [rhy p bs, fr 0, fr D] st := rfl
      rw [wItems_ev, eFrz_ev, em, e1]
      rfl) hl
    (fun x hx => by
      have es := sound_ok (k := k - 1) (st := st) (T := T) (t := x.1) (p := q) (bs := cs) h.sub (by omega) (fx x hx) hq hqz
      refine ⟨[.val (rhy p bs), .val (rhy q cs), .val (fr D), .un, .val (fr x.1), .val (.str x.2)], rfl, ?_, fun _ => rfl⟩
      have em : fMeth (runFn T (k - 1)) 116 0 "sound" (eVar 1) (aCons (eVar 4) (aNil)) [.val (rhy p bs), .val (rhy q cs), .val (fr D), .un, .val (fr x.1), .val (.str x.2)] st = runFn T (k - 1) 116 [rhy q cs, fr x.1] st := rfl
      have en := pNe_str (look_txt (t := rbey x.1 q) hcs) (show Txt [] from rfl)
      rw [tVal_ev, eOp2_ev, eFrz_ev, em, es, bind_ok, kFrz_ev, toPV_val, ofOpt_some, bind_ok, kOp2_ev, eC_ev, bind_ok, kOpt_ev, en]
      rfl)
  have s1 : sSet 2 (fVal (eFrz (fCall (runFn T (k - 1)) 125 (aCons (eVar 0) (aCons (eVar 1) (aNil)))))) [.val (rhy p bs), .val (rhy q cs), .un, .un, .un, .un] st = .next [.val (rhy p bs), .val (rhy q cs), .val (fr D), .un, .un, .un] st := by simp [hc]
  unfold b131
  show BR.finish (sSeq _ _ [.val (rhy p bs), .val (rhy q cs), .un, .un, .un, .un] st) = _
  rw [sSeq_ev, s1, seq_next, sSeq_ev, sSet_ev, fVal_ev, eFrz_ev, e2]
  rfl
/-! ### strokes_to -/
/-- the strokes of one beat of one turn -/
def sts (p : Rat) (t : Int) (b : Beat) : List Beat := b.2.map fun c => (p * t + b.1, [c])
def strokesTo (p : Rat) (bs : List Beat) (n : Int) : List Beat := (nums 0 n.toNat).flatMap fun t => bs.flatMap (sts p t)
theorem rng1_nums {n : Int} (h : -(2 ^ 62) ≤ n ∧ n < 2 ^ 62) : rng1 (.int n) = some ((nums 0 n.toNat).map PV.int) := by
  unfold rng1
  simp only
  rw [show big62 n = true from decide_eq_true h, upInts_nums]
  rfl
theorem sExt_ev {i : Nat} {xs ys : List PV} {m : EM} {ρ : BR.Env} (h : ρ[i]? = some (.own xs)) (hm : m ρ st = .ok (.lst ys) st) (hl : xs.length + ys.length ≤ lim) : sExt i m ρ st = .next (ρ.set i (.own (xs ++ ys))) st := by
  unfold sExt
  rw [h]
  simp only
  rw [hm, bindS_ok]
  simp only
  rw [if_pos hl]
theorem strokes_to_ok (h : Has T [65, 67, 69, 71, 72, 118]) (hk : 4 < k) {p D : Rat} {bs : List Beat} (hp : Fit 400 p) (hz : p ≠ 0) (hD : Fit 1000 D) (hb : ∀ b ∈ bs, Fit 400 b.1 ∧ b.2.length ≤ lim) (hn : -(2 ^ 62) ≤ (D / p).num ∧ (D / p).num < 2 ^ 62) (hl : (strokesTo p bs (D / p).num).length ≤ lim) :
    runFn T k 118 [rhy p bs, fr D] st = .ok (.own ((strokesTo p bs (D / p).num).map bt)) st := by
  rw [run_at (h.at 118) (by omega)]
  have e1 := over_ok (st := st) (k := k - 1) (T := T) h.sub (by omega) (hD.mono (by decide)) (hp.mono (by decide)) hz
  have er := rng1_nums hn
  unfold strokesTo at hl ⊢
  generalize hT : nums 0 (D / p).num.toNat = ts at er hl ⊢
  have tb : ∀ t ∈ ts, Fit 63 (t : Rat) := fun t ht => by
    rw [← hT] at ht
    have := mem_nums ht
    exact fit_int (by omega) (by decide)
  obtain ⟨ρ', e5, c3, c4, c5, c6, c7, rfl⟩ := forGo_pre (st := st) (g := gName 3) (body := (sSeq (sSet 4 (fVal (eFrz (fCall (runFn T (k - 1)) 71 (aCons (eAttr 0 "size" (eVar 0)) (aCons (eTup (aCons (eVar 3) (aCons (eC (.int 1)) (aNil)))) (aNil))))))) (sFor (wItems (eAttr 0 "row" (eVar 0))) (gTup [gName 5, gName 6]) (sExt 2 (eFrz (fLc (wItems (eVar 6)) [7] (gName 7) (tYes) (eTup (aCons (eFrz (fCall (runFn T (k - 1)) 69 (aCons (eVar 4) (aCons (eVar 5) (aNil))))) (aCons (eVar 7) (aNil))))))))))
    PV.int ts (fun pre ρ => ∃ c3 c4 c5 c6 c7, ρ = [.val (rhy p bs), .val (fr D), .own ((pre.flatMap fun t => bs.flatMap (sts p t)).map bt), c3, c4, c5, c6, c7])
    (by
      rintro pre t post _ hy ⟨c3, c4, c5, c6, c7, rfl⟩
      have ft := tb t (by rw [hy]; simp)
      have e6 := product_ok (st := st) (k := k - 1) (T := T) h.sub (by omega) (hp.mono (by decide)) (ft.mono (by decide))
      rw [← fr_int] at e6
      have fpt := fit_mul hp ft
      generalize hacc : (pre.flatMap fun t => bs.flatMap (sts p t)) = acc
      have hlen : acc.length + (bs.flatMap (sts p t)).length ≤ lim := by
        rw [hy, List.flatMap_append, List.flatMap_cons, hacc, List.length_append, List.length_append] at hl
        omega
      obtain ⟨ρ', e7, d5, d6, d7, rfl⟩ := forGo_pre (st := st) (g := gTup [gName 5, gName 6]) (body := sExt 2 (eFrz (fLc (wItems (eVar 6)) [7] (gName 7) (tYes) (eTup (aCons (eFrz (fCall (runFn T (k - 1)) 69 (aCons (eVar 4) (aCons (eVar 5) (aNil))))) (aCons (eVar 7) (aNil)))))))
        bt bs (fun pr ρ => ∃ d5 d6 d7, ρ = [.val (rhy p bs), .val (fr D), .own ((acc ++ pr.flatMap (sts p t)).map bt), .val (.int t), .val (fr (p * t)), d5, d6, d7])
        (by
          rintro pr b ps _ hyb ⟨d5, d6, d7, rfl⟩
          have fb := hb b (by rw [hyb]; simp)
          have e8 := added_ok (st := st) (k := k - 1) (T := T) h.sub (by omega) (fpt.mono (by decide)) (fb.1.mono (by decide))
          have e9 := fLc_map (st := st) (ρ := [.val (rhy p bs), .val (fr D), .own ((acc ++ pr.flatMap (sts p t)).map bt), .val (.int t), .val (fr (p * t)), .val (fr b.1), .val (.str b.2), d7]) (w := wItems (eVar 6)) (own := [7]) (g := gName 7)
            (e := eTup (aCons (eFrz (fCall (runFn T (k - 1)) 69 (aCons (eVar 4) (aCons (eVar 5) (aNil))))) (aCons (eVar 7) (aNil)))) (fun c => PV.str [c]) (fun c => bt (p * t + b.1, [c])) b.2 (by simp [itemsOf]) fb.2
            (fun c _ => by
              generalize (acc ++ pr.flatMap (sts p t)).map bt = M
              exact ⟨[.val (rhy p bs), .val (fr D), .own M, .val (.int t), .val (fr (p * t)), .val (fr b.1), .val (.str b.2), .val (.str [c])], rfl, by simp [e8, bt]⟩)
          have hs : ((sts p t b).map bt) = b.2.map fun c => bt (p * t + b.1, [c]) := by unfold sts; rw [List.map_map]; rfl
          rw [← hs] at e9
          have hlb : (pr.flatMap (sts p t)).length + (sts p t b).length ≤ (bs.flatMap (sts p t)).length := by
            rw [hyb, List.flatMap_append, List.flatMap_cons, List.length_append, List.length_append]
            omega
          refine ⟨_, [.val (rhy p bs), .val (fr D), .own ((acc ++ pr.flatMap (sts p t)).map bt ++ (sts p t b).map bt), .val (.int t), .val (fr (p * t)), .val (fr b.1), .val (.str b.2), d7], rfl, .inl ?_, .val (fr b.1), .val (.str b.2), d7, ?_⟩
          · exact sExt_ev (ρ := [.val (rhy p bs), .val (fr D), .own ((acc ++ pr.flatMap (sts p t)).map bt), .val (.int t), .val (fr (p * t)), .val (fr b.1), .val (.str b.2), d7]) rfl (by
              rw [eFrz_ev, e9]
              rfl) (by
              rw [List.length_map, List.length_map, List.length_append]
              omega)
          · rw [List.flatMap_append, ← List.map_append, List.append_assoc]
            simp) (ρ := [.val (rhy p bs), .val (fr D), .own (acc.map bt), .val (.int t), .val (fr (p * t)), c5, c6, c7]) ⟨c5, c6, c7, by simp⟩
      refine ⟨_, [.val (rhy p bs), .val (fr D), .own ((acc ++ bs.flatMap (sts p t)).map bt), .val (.int t), .val (fr (p * t)), d5, d6, d7], rfl, .inl ?_, .val (.int t), .val (fr (p * t)), d5, d6, d7, by
        have : (pre ++ [t]).flatMap (fun t => bs.flatMap (sts p t)) = acc ++ bs.flatMap (sts p t) := by rw [List.flatMap_append, hacc, List.flatMap_cons, List.flatMap_nil, List.append_nil]
        rw [this]⟩
      have a1 : ∀ x : SV, eAttr 0 "size" (eVar 0) [.val (rhy p bs), .val (fr D), .own (acc.map bt), .val (.int t), x, c5, c6, c7] st = .ok (fr p) st := fun _ => rfl
      have a2 : ∀ x : SV, eAttr 0 "row" (eVar 0) [.val (rhy p bs), .val (fr D), .own (acc.map bt), .val (.int t), x, c5, c6, c7] st = .ok (.tup (bs.map bt)) st := fun _ => rfl
      generalize ((acc ++ bs.flatMap (sts p t)).map bt) = M at e7 ⊢
      simp [-eAttr_ev, a1, a2, e6, e7]) (ρ := [.val (rhy p bs), .val (fr D), .own [], .un, .un, .un, .un, .un]) ⟨_, _, _, _, _, rfl⟩
  have a1 : eAttr 0 "size" (eVar 0) [.val (rhy p bs), .val (fr D), .own [], .un, .un, .un, .un, .un] st = .ok (fr p) st := rfl
  have s2 : wRng1 (eOp2S pIdxS (eFrz (fCall (runFn T (k - 1)) 72 (aCons (eVar 1) (aCons (eAttr 0 "size" (eVar 0)) (aNil))))) (eC (.int 0))) [.val (rhy p bs), .val (fr D), .own [], .un, .un, .un, .un, .un] st = .ok (ts.map PV.int) st := by
    have : eFrz (fCall (runFn T (k - 1)) 72 (aCons (eVar 1) (aCons (eAttr 0 "size" (eVar 0)) (aNil)))) [.val (rhy p bs), .val (fr D), .own [], .un, .un, .un, .un, .un] st = .ok (fr (D / p)) st := by simp [-eAttr_ev, a1, e1]
    rw [wRng1_ev, eOp2S_ev, this, bind_ok, kOp2S_ev, eC_ev, bind_ok, kOptS_ev, fr_at0, ofOpt_some, bind_ok, kLs_ev, er, ofOpt_some]
  unfold b118
  show BR.finish (sSeq _ _ [.val (rhy p bs), .val (fr D), .un, .un, .un, .un, .un, .un] st) = _
  rw [sSeq_ev, show sSet 2 (fLst aNil) [.val (rhy p bs), .val (fr D), .un, .un, .un, .un, .un, .un] st = .next [.val (rhy p bs), .val (fr D), .own [], .un, .un, .un, .un, .un] st from rfl, seq_next, sSeq_ev, sFor_ev, s2, bindS_ok, kFor_ev, e5, seq_next]
  rfl
end
end BP
set_option Elab.async false
set_option linter.all false
set_option maxRecDepth 100000
set_option maxHeartbeats 4000000
/-! S12: both_of. -/
namespace BP
open BR PySem
theorem mrgOk_fold (ys : List Beat) (h : ∀ y ∈ ys, Txt y.2) : MrgOk ys (ys.foldl mrg []) := by
  suffices ∀ (post pre : List Beat), (∀ y ∈ post, Txt y.2) → MrgOk pre (pre.foldl mrg []) → MrgOk (pre ++ post) ((pre ++ post).foldl mrg []) from by
    have := this ys [] h (MrgOk.mk (Nat.le_refl _) (fun _ h => nomatch h) (Nat.le_refl _))
    rwa [List.nil_append] at this
  intro post
  induction post with
  | nil => intro pre _ q; rw [List.append_nil]; exact q
  | cons y post ih =>
    intro pre hy q
    have := ih (pre ++ [y]) (fun z hz => hy z (List.mem_cons_of_mem _ hz)) (by rw [List.foldl_append]; exact q.step (hy y List.mem_cons_self))
    rwa [List.append_assoc, List.singleton_append] at this
theorem le_txLen {b : Beat} {l : List Beat} (h : b ∈ l) : b.2.length ≤ txLen l := by
  unfold txLen
  induction l with
  | nil => cases h
  | cons x l ih =>
    rw [List.map_cons, List.sum_cons]
    rcases List.mem_cons.mp h with e | e
    · rw [e]; omega
    · have := ih e; omega
theorem Sg.txt {x : Beat} (h : Sg x) : Txt x.2 := by
  obtain ⟨_, c, e, hc⟩ := h
  rw [e]
  exact okLet_txt (okLet_one hc)
theorem txLen_sg : ∀ {l : List Beat}, (∀ x ∈ l, Sg x) → txLen l = l.length
  | [], _ => rfl
  | x :: l, h => by
    obtain ⟨_, c, e, _⟩ := h x List.mem_cons_self
    have := txLen_sg (l := l) fun y hy => h y (List.mem_cons_of_mem _ hy)
    unfold txLen at this ⊢
    rw [List.map_cons, List.sum_cons, this, e, List.length_cons]
    show 0 + 1 + l.length = l.length + 1
    omega
/-- beats_of strokes that are each once: beats that the evaluator can look at -/
theorem beatsOf_bok {n : Nat} {xs : List Beat} (h : ∀ x ∈ xs, Sg x ∧ Fit n x.1) (hn : xs.Nodup) (hl : xs.length ≤ lim) : BOk n (beatsOf xs) := by
  have ha := beatsOf_asc (P := Fit n) h hn
  have hm := mrgOk_fold (isort ltB xs) fun y hy => (h y (mem_isort hy)).1.txt
  have ht : txLen (isort ltB xs) ≤ lim := by rw [txLen_isort, txLen_sg fun x hx => (h x hx).1]; exact hl
  have hlen := hm.len
  rw [isort_len] at hlen
  refine ⟨Nat.le_trans hlen hl, fun b hb => ⟨(ha.ok b hb).2, hm.txt b hb, Nat.le_trans (le_txLen hb) (Nat.le_trans hm.tx ht)⟩⟩
section
variable {T : Nat → Option Fn} {k : Nat} {st : Store}
theorem both_of_ok (h : Has T [64, 65, 66, 67, 68, 69, 70, 71, 72, 73, 78, 91, 100, 105, 106, 107, 108, 109, 110, 111, 118, 126]) (hk : 7 < k) {p q D : Rat} {bs cs : List Beat} {Dn : Nat} (hc : runFn T (k - 1) 125 [rhy p bs, rhy q cs] st = .ok (.val (fr D)) st)
    (hp : Fit 400 p) (hz : p ≠ 0) (hq : Fit 400 q) (hqz : q ≠ 0) (hD : Fit 1000 D) (hD0 : 0 < D) (hb : ∀ b ∈ bs, Fit 400 b.1 ∧ b.2.length ≤ lim) (hb2 : ∀ b ∈ cs, Fit 400 b.1 ∧ b.2.length ≤ lim)
    (hn : -(2 ^ 62) ≤ (D / p).num ∧ (D / p).num < 2 ^ 62) (hn2 : -(2 ^ 62) ≤ (D / q).num ∧ (D / q).num < 2 ^ 62) (h0 : 0 < Dn) (h1 : Dn < 2 ^ 4000)
    (hx : ∀ x ∈ strokesTo p bs (D / p).num ++ strokesTo q cs (D / q).num, Sg x ∧ x.1 < D ∧ Fit 4000 x.1 ∧ x.1.den ∣ Dn) (hl : (strokesTo p bs (D / p).num ++ strokesTo q cs (D / q).num).length ≤ 1000) :
    runFn T k 126 [rhy p bs, rhy q cs] st = .ok (.val (rhy (leastForm D (beatsOf (uniq (strokesTo p bs (D / p).num ++ strokesTo q cs (D / q).num)))).1 (leastForm D (beatsOf (uniq (strokesTo p bs (D / p).num ++ strokesTo q cs (D / q).num)))).2)) st := by
  have hlim : lim = 1000000 := rfl
  rw [run_at (h.at 126) (by omega)]
  have la := hl
  rw [List.length_append] at la
  have e1 := strokes_to_ok (k := k - 1) (st := st) (T := T) h.sub (by omega) hp hz hD hb hn (by omega)
  have e2 := strokes_to_ok (k := k - 1) (st := st) (T := T) h.sub (by omega) hq hqz hD hb2 hn2 (by omega)
  generalize hA : strokesTo p bs (D / p).num = A at e1 hx hl la ⊢
  generalize hB : strokesTo q cs (D / q).num = B at e2 hx hl la ⊢
  have hu : ∀ x ∈ uniq (A ++ B), Sg x ∧ x.1 < D ∧ Fit 4000 x.1 ∧ x.1.den ∣ Dn := fun x m => hx x (uniq_mem.mp m)
  have ul := Nat.le_trans (uniq_le (A ++ B)) hl
  have un := uniq_nodup (A ++ B)
  have e3 := eDc_bt (st := st) (ρ := [.val (rhy p bs), .val (rhy q cs), .val (fr D), .un, .un, .un]) (w := wItems (eOp2 pAdd (eFrz (fMeth (runFn T (k - 1)) 118 0 "strokes_to" (eVar 0) (aCons (eVar 2) (aNil)))) (eFrz (fMeth (runFn T (k - 1)) 118 0 "strokes_to" (eVar 1) (aCons (eVar 2) (aNil)))))) (own := [5]) (g := gName 5) (ek := eVar 5) (ev := eC (.bl true)) (xs := A ++ B)
    (by
      have m1 : fMeth (runFn T (k - 1)) 118 0 "strokes_to" (eVar 0) (aCons (eVar 2) (aNil)) [.val (rhy p bs), .val (rhy q cs), .val (fr D), .un, .un, .un] st = runFn T (k - 1) 118 [rhy p bs, fr D] st := rfl
      have m2 : fMeth (runFn T (k - 1)) 118 0 "strokes_to" (eVar 1) (aCons (eVar 2) (aNil)) [.val (rhy p bs), .val (rhy q cs), .val (fr D), .un, .un, .un] st = runFn T (k - 1) 118 [rhy q cs, fr D] st := rfl
      have pa : pAdd (.lst (A.map bt)) (.lst (B.map bt)) = some (.lst ((A ++ B).map bt)) := by
        unfold pAdd
        simp only
        rw [if_pos (by rw [List.length_map, List.length_map]; omega), List.map_append]
      rw [wItems_ev, eOp2_ev, eFrz_ev, m1, e1, bind_ok, kFrz_ev, toPV_own, ofOpt_some, bind_ok, kOp2_ev, eFrz_ev, m2, e2, bind_ok, kFrz_ev, toPV_own, ofOpt_some, bind_ok, kOpt_ev, pa]
      rfl) (fun x _ => ⟨[.val (rhy p bs), .val (rhy q cs), .val (fr D), .un, .un, .val (bt x)], rfl, rfl, rfl⟩) (by omega)
  generalize uniq (A ++ B) = U at e3 hu ul un ⊢
  have tl : txLen U ≤ lim := by rw [txLen_sg fun x m => (hu x m).1]; omega
  have e4 := beats_of_ok (k := k - 1) (st := st) (T := T) h.sub (by omega) h0 h1 (xs := U) (fun x m => ⟨⟨(hu x m).2.2.2, (hu x m).2.2.1⟩, (hu x m).1.txt⟩) (by omega) tl
  have bo := beatsOf_bok (n := 4000) (xs := U) (fun x m => ⟨(hu x m).1, (hu x m).2.2.1⟩) un (by omega)
  have as := beatsOf_asc (P := fun t => t < D) (xs := U) (fun x m => ⟨(hu x m).1, (hu x m).2.1⟩) un
  have bl : (beatsOf U).length ≤ 1000 := by
    have := (mrgOk_fold (isort ltB U) fun y hy => (hu y (mem_isort hy)).1.txt).len
    rw [isort_len] at this
    exact Nat.le_trans this ul
  generalize beatsOf U = bb at e4 bo as bl ⊢
  have e5 := need_ok (k := k - 1) (st := st) (T := T) h.sub (by omega) (c := (bb.length : Int)) (by omega)
  have e6 := init_ok (k := k - 1) (st := st) (T := T) h.sub (by omega) (p := D) (bs := bb) (hD.mono (by decide)) hD0 bo as.beats
  have s1 : sSet 2 (fVal (eFrz (fCall (runFn T (k - 1)) 125 (aCons (eVar 0) (aCons (eVar 1) (aNil)))))) [.val (rhy p bs), .val (rhy q cs), .un, .un, .un, .un] st = .next [.val (rhy p bs), .val (rhy q cs), .val (fr D), .un, .un, .un] st := by simp [hc]
  generalize hks : (U.map fun _ => PV.bl true) = vs at e3
  have s3 : sSet 4 (fVal (eFrz (fCall (runFn T (k - 1)) 100 (aCons (eFrz (fListD (eVar 3))) (aNil))))) [.val (rhy p bs), .val (rhy q cs), .val (fr D), .val (.dct (U.map bt) vs), .un, .un] st = .next [.val (rhy p bs), .val (rhy q cs), .val (fr D), .val (.dct (U.map bt) vs), .val (.lst (bb.map bt)), .un] st := by simp [e4]
  have s4 : sDrop (eFrz (fCall (runFn T (k - 1)) 91 (aCons (eOp1S nLenS (eVar 4)) (aNil)))) [.val (rhy p bs), .val (rhy q cs), .val (fr D), .val (.dct (U.map bt) vs), .val (.lst (bb.map bt)), .un] st = .next [.val (rhy p bs), .val (rhy q cs), .val (fr D), .val (.dct (U.map bt) vs), .val (.lst (bb.map bt)), .un] st := by simp [e5]
  have s5 : fMake (runFn T (k - 1)) 111 false (aCons (eVar 2) (aCons (eOpN nTuple (aCons (eVar 4) (aNil))) (aNil))) [.val (rhy p bs), .val (rhy q cs), .val (fr D), .val (.dct (U.map bt) vs), .val (.lst (bb.map bt)), .un] st = .ok (.val (rhy (leastForm D bb).1 (leastForm D bb).2)) st :=
    make_ok (p := fr D) (q := .tup (bb.map bt)) rfl e6
  unfold b126
  show BR.finish (sSeq _ _ [.val (rhy p bs), .val (rhy q cs), .un, .un, .un, .un] st) = _
  rw [sSeq_ev, s1, seq_next, sSeq_ev, sSet_ev, fVal_ev, e3, bind_ok, kVal_ev, bindS_ok, kSet_ev, seq_next, sSeq_ev]
  rw [show ([.val (rhy p bs), .val (rhy q cs), .val (fr D), .un, .un, .un] : BR.Env).set 3 (.val (.dct (U.map bt) vs)) = [.val (rhy p bs), .val (rhy q cs), .val (fr D), .val (.dct (U.map bt) vs), .un, .un] from rfl, s3, seq_next, sSeq_ev, s4, seq_next, sRet_ev, s5]
  rfl
end
end BP
set_option Elab.async false
set_option linter.all false
set_option maxRecDepth 100000
set_option maxHeartbeats 4000000
/-! Q1: rhythms as functions of time: snd; periods; the least form is the least period's. -/
namespace BP
open BR PySem
/-! ### times taken off -/
theorem le_div_iff' {a b c : Rat} (hc : 0 < c) : a ≤ b / c ↔ c * a ≤ b := by
  rw [← Rat.not_lt, Rat.div_lt_iff' hc, Rat.not_lt]
theorem int_succ (n : Int) : ((n + 1 : Int) : Rat) = (n : Rat) + 1 := Rat.intCast_add n 1
theorem nat_succ (n : Nat) : ((n + 1 : Nat) : Rat) = (n : Rat) + 1 := int_succ n
theorem floor_mul {p t : Rat} (hp : 0 < p) : p * (t / p).floor ≤ t ∧ t < p * (t / p).floor + p := by
  have h1 := Rat.floor_le (t / p)
  have h2 := Rat.lt_floor_add_one (t / p)
  rw [le_div_iff' hp] at h1
  rw [Rat.div_lt_iff' hp, int_succ] at h2
  exact ⟨h1, by grind⟩
theorem floor_of {p t : Rat} (hp : 0 < p) {z : Int} (h1 : p * z ≤ t) (h2 : t < p * z + p) : (t / p).floor = z := by
  apply Int.le_antisymm
  · have : (t / p).floor < z + 1 := by
      rw [Rat.floor_lt_iff, Rat.div_lt_iff' hp, int_succ]
      grind
    omega
  · rw [Rat.le_floor_iff, le_div_iff' hp]
    exact h1
theorem rbey_of {p t r : Rat} {z : Int} (e : t = p * z + r) (h0 : 0 ≤ r) (h1 : r < p) : rbey t p = r := by
  have hp : 0 < p := by grind
  unfold rbey
  rw [floor_of hp (z := z) (by grind) (by grind)]
  grind
theorem rbey_split {p : Rat} (hp : 0 < p) (t : Rat) : ∃ z : Int, t = p * z + rbey t p ∧ 0 ≤ rbey t p ∧ rbey t p < p := by
  have h := floor_mul (t := t) hp
  refine ⟨(t / p).floor, ?_⟩
  unfold rbey
  grind
theorem rbey_id {p t : Rat} (h0 : 0 ≤ t) (h1 : t < p) : rbey t p = t := by
  have z0 : ((0 : Int) : Rat) = 0 := rfl
  exact rbey_of (z := 0) (by grind) h0 h1
theorem rbey_add {p : Rat} (hp : 0 < p) (t : Rat) (z : Int) : rbey (t + p * z) p = rbey t p := by
  obtain ⟨y, e, h0, h1⟩ := rbey_split hp t
  exact rbey_of (z := y + z) (by rw [Rat.intCast_add]; grind) h0 h1
/-! ### beats looked up -/
abbrev Asc1 (bs : List Beat) : Prop := bs.Pairwise fun a b => a.1 < b.1
abbrev Full (bs : List Beat) : Prop := ∀ b ∈ bs, b.2 ≠ []
theorem look_cons (b : Beat) (bs : List Beat) (t : Rat) : look (b :: bs) t = if b.1 = t then b.2 else look bs t := by
  unfold look
  rw [List.find?_cons]
  by_cases h : b.1 = t
  · rw [decide_eq_true h, if_pos h]
    rfl
  · rw [decide_eq_false h, if_neg h]
theorem look_none : ∀ {bs : List Beat} {t : Rat}, (∀ b ∈ bs, b.1 ≠ t) → look bs t = []
  | [], _, _ => rfl
  | b :: bs, t, h => by
    rw [look_cons, if_neg (h b List.mem_cons_self)]
    exact look_none fun c hc => h c (List.mem_cons_of_mem _ hc)
theorem look_mem : ∀ {bs : List Beat} {t : Rat} {s : List Nat}, Asc1 bs → (t, s) ∈ bs → look bs t = s
  | b :: bs, t, s, ha, h => by
    obtain ⟨h1, h2⟩ := List.pairwise_cons.mp ha
    rw [look_cons]
    rcases List.mem_cons.mp h with e | e
    · rw [← e, if_pos rfl]
    · have := h1 _ e
      rw [if_neg fun q => by rw [q] at this; exact Rat.lt_irrefl this]
      exact look_mem h2 e
theorem look_ne : ∀ {bs : List Beat} {t : Rat}, look bs t ≠ [] → (t, look bs t) ∈ bs
  | [], _, h => absurd rfl h
  | b :: bs, t, h => by
    rw [look_cons] at h ⊢
    by_cases e : b.1 = t
    · rw [if_pos e, ← e]
      exact List.mem_cons_self
    · rw [if_neg e] at h ⊢
      exact List.mem_cons_of_mem _ (look_ne h)
theorem look_congr {as bs : List Beat} (ha : Asc1 as) (hb : Asc1 bs) (fa : Full as) (fb : Full bs) {t u : Rat} (h : ∀ s, (t, s) ∈ as ↔ (u, s) ∈ bs) : look as t = look bs u := by
  by_cases e : look as t = []
  · by_cases e2 : look bs u = []
    · rw [e, e2]
    · rw [look_mem ha ((h _).mpr (look_ne e2))]
  · rw [look_mem hb ((h _).mp (look_ne e))]
theorem mem_ext : ∀ {as bs : List Beat}, Asc1 as → Asc1 bs → (∀ x, x ∈ as ↔ x ∈ bs) → as = bs
  | [], [], _, _, _ => rfl
  | [], b :: bs, _, _, h => absurd ((h b).mpr List.mem_cons_self) (by simp)
  | a :: as, [], _, _, h => absurd ((h a).mp List.mem_cons_self) (by simp)
  | a :: as, b :: bs, ha, hb, h => by
    obtain ⟨h1, h2⟩ := List.pairwise_cons.mp ha
    obtain ⟨g1, g2⟩ := List.pairwise_cons.mp hb
    have e : a = b := by
      rcases List.mem_cons.mp ((h a).mp List.mem_cons_self) with e | e
      · exact e
      · rcases List.mem_cons.mp ((h b).mpr List.mem_cons_self) with e2 | e2
        · exact e2.symm
        · have l1 := g1 a e
          have l2 := h1 b e2
          grind
    subst e
    rw [mem_ext h2 g2 fun x => ?_]
    constructor
    · intro hx
      rcases List.mem_cons.mp ((h x).mp (List.mem_cons_of_mem _ hx)) with e | e
      · have := h1 x hx
        rw [e] at this
        exact absurd this Rat.lt_irrefl
      · exact e
    · intro hx
      rcases List.mem_cons.mp ((h x).mpr (List.mem_cons_of_mem _ hx)) with e | e
      · have := g1 x hx
        rw [e] at this
        exact absurd this Rat.lt_irrefl
      · exact e
theorem look_ext {as bs : List Beat} (ha : Asc1 as) (hb : Asc1 bs) (fa : Full as) (fb : Full bs) (h : ∀ t, look as t = look bs t) : as = bs := by
  refine mem_ext ha hb fun x => ⟨fun hx => ?_, fun hx => ?_⟩
  · have e := look_mem ha (t := x.1) (s := x.2) hx
    have := fa x hx
    have := look_ne (bs := bs) (t := x.1) (by rw [← h, e]; exact this)
    rwa [← h, e] at this
  · have e := look_mem hb (t := x.1) (s := x.2) hx
    have := fb x hx
    have := look_ne (bs := as) (t := x.1) (by rw [h, e]; exact this)
    rwa [h, e] at this
/-! ### machines -/
/-- a period, ascending beats in it -/
structure Mach (p : Rat) (bs : List Beat) : Prop where
  pos : 0 < p
  asc : Asc1 bs
  inn : ∀ b ∈ bs, 0 ≤ b.1 ∧ b.1 < p ∧ b.2 ≠ []
theorem Mach.full {p : Rat} {bs : List Beat} (h : Mach p bs) : Full bs := fun b hb => (h.inn b hb).2.2
/-- the letters at any time -/
def snd (p : Rat) (bs : List Beat) (t : Rat) : List Nat := look bs (rbey t p)
def Per (f : Rat → List Nat) (p : Rat) : Prop := ∀ t, f (t + p) = f t
theorem snd_in {p : Rat} {bs : List Beat} {t : Rat} (h0 : 0 ≤ t) (h1 : t < p) : snd p bs t = look bs t := by unfold snd; rw [rbey_id h0 h1]
theorem snd_add {p : Rat} (hp : 0 < p) (bs : List Beat) (t : Rat) (z : Int) : snd p bs (t + p * z) = snd p bs t := by unfold snd; rw [rbey_add hp]
theorem snd_per {p : Rat} (hp : 0 < p) (bs : List Beat) : Per (snd p bs) p := fun t => by
  have := snd_add hp bs t 1
  rwa [show p * ((1 : Int) : Rat) = p from Rat.mul_one p] at this
theorem Mach.ext {p : Rat} {as bs : List Beat} (ha : Mach p as) (hb : Mach p bs) (h : ∀ t, snd p as t = snd p bs t) : as = bs := by
  refine look_ext ha.asc hb.asc ha.full hb.full fun t => ?_
  by_cases ht : 0 ≤ t ∧ t < p
  · rw [← snd_in ht.1 ht.2, h, snd_in ht.1 ht.2]
  · rw [look_none fun b hb' e => ht (by rw [← e]; exact ⟨(ha.inn b hb').1, (ha.inn b hb').2.1⟩), look_none fun b hb' e => ht (by rw [← e]; exact ⟨(hb.inn b hb').1, (hb.inn b hb').2.1⟩)]
theorem Per.mulNat {f : Rat → List Nat} {p : Rat} (h : Per f p) : ∀ (n : Nat) (t : Rat), f (t + p * (n : Rat)) = f t
  | 0, t => by rw [show ((0 : Nat) : Rat) = 0 from rfl, Rat.mul_zero, Rat.add_zero]
  | n + 1, t => by
    rw [nat_succ, show t + p * ((n : Rat) + 1) = t + p * (n : Rat) + p from by grind, h, h.mulNat n]
theorem Per.mulInt {f : Rat → List Nat} {p : Rat} (h : Per f p) (z : Int) (t : Rat) : f (t + p * (z : Rat)) = f t := by
  rcases Int.eq_nat_or_neg z with ⟨n, e | e⟩
  · rw [e]
    exact h.mulNat n t
  · rw [e, ← h.mulNat n (t + p * ((-(n : Int) : Int) : Rat)), Rat.intCast_neg, show t + p * -((n : Int) : Rat) + p * (n : Rat) = t from by
      have : ((n : Int) : Rat) = (n : Rat) := rfl
      rw [this]
      grind]
/-! ### one behind another -/
def rep (q : Rat) (F : List Beat) (m : Nat) : List Beat := (List.range m).flatMap fun j : Nat => F.map fun b => (q * (j : Rat) + b.1, b.2)
theorem rep_succ (q : Rat) (F : List Beat) (m : Nat) : rep q F (m + 1) = rep q F m ++ F.map fun b => (q * (m : Rat) + b.1, b.2) := by
  unfold rep
  rw [List.range_succ, List.flatMap_append, List.flatMap_singleton]
theorem mem_rep {q : Rat} {F : List Beat} {m : Nat} {x : Beat} : x ∈ rep q F m ↔ ∃ j : Nat, j < m ∧ ∃ b, b ∈ F ∧ x = (q * (j : Rat) + b.1, b.2) := by
  unfold rep
  rw [List.mem_flatMap]
  constructor
  · rintro ⟨j, hj, hx⟩
    obtain ⟨b, hb, e⟩ := List.mem_map.mp hx
    exact ⟨j, List.mem_range.mp hj, b, hb, e.symm⟩
  · rintro ⟨j, hj, b, hb, e⟩
    exact ⟨j, List.mem_range.mpr hj, List.mem_map.mpr ⟨b, hb, e.symm⟩⟩
theorem rep_len (q : Rat) (F : List Beat) : ∀ m, (rep q F m).length = m * F.length
  | 0 => by unfold rep; simp
  | m + 1 => by rw [rep_succ, List.length_append, rep_len q F m, List.length_map, Nat.succ_mul]
theorem bAt_left {as bs : List Beat} {i : Nat} (h : i < as.length) : bAt (as ++ bs) i = bAt as i := by
  unfold bAt
  rw [List.getD_eq_getElem?_getD, List.getD_eq_getElem?_getD, List.getElem?_append_left h]
theorem bAt_right {as bs : List Beat} {i : Nat} (h : as.length ≤ i) : bAt (as ++ bs) i = bAt bs (i - as.length) := by
  unfold bAt
  rw [List.getD_eq_getElem?_getD, List.getD_eq_getElem?_getD, List.getElem?_append_right h]
theorem bAt_map {bs : List Beat} {i : Nat} (f : Beat → Beat) (h : i < bs.length) : bAt (bs.map f) i = f (bAt bs i) := by
  have := bAt_get h
  unfold bAt at *
  rw [List.getD_eq_getElem?_getD, List.getElem?_map, this]
  rfl
theorem rep_at (q : Rat) (F : List Beat) {i : Nat} (hi : i < F.length) : ∀ (m j : Nat), j < m → bAt (rep q F m) (j * F.length + i) = (q * (j : Rat) + (bAt F i).1, (bAt F i).2)
  | 0, _, h => absurd h (Nat.not_lt_zero _)
  | m + 1, j, h => by
    rw [rep_succ]
    by_cases hj : j < m
    · rw [bAt_left (by
        rw [rep_len]
        have := Nat.mul_le_mul_right F.length (show j + 1 ≤ m from hj)
        rw [Nat.succ_mul] at this
        omega), rep_at q F hi m j hj]
    · have e : j = m := by omega
      subst e
      rw [bAt_right (by rw [rep_len]; omega), rep_len, show j * F.length + i - j * F.length = i from by omega, bAt_map _ hi]
theorem bAt_ext {as bs : List Beat} (hl : as.length = bs.length) (h : ∀ i, i < as.length → bAt as i = bAt bs i) : as = bs := by
  refine List.ext_getElem? fun i => ?_
  by_cases hi : i < as.length
  · rw [bAt_get hi, bAt_get (by omega), h i hi]
  · rw [List.getElem?_eq_none (by omega), List.getElem?_eq_none (by omega)]
theorem rep_props {q : Rat} {F : List Beat} (h : Mach q F) : ∀ m : Nat, Asc1 (rep q F m) ∧ ∀ b ∈ rep q F m, 0 ≤ b.1 ∧ b.1 < q * (m : Rat) ∧ b.2 ≠ []
  | 0 => ⟨by unfold rep; exact .nil, fun b hb => by unfold rep at hb; simp at hb⟩
  | m + 1 => by
    obtain ⟨h1, h2⟩ := rep_props h m
    have hp := h.pos
    have hm : (0 : Rat) ≤ (m : Rat) := Rat.natCast_nonneg
    have hqm : 0 ≤ q * (m : Rat) := Rat.mul_nonneg (Rat.le_of_lt hp) hm
    rw [rep_succ, nat_succ]
    refine ⟨List.pairwise_append.mpr ⟨h1, ?_, ?_⟩, fun b hb => ?_⟩
    · refine List.pairwise_map.mpr (h.asc.imp fun {a b} l => ?_)
      show q * (m : Rat) + a.1 < q * (m : Rat) + b.1
      grind
    · intro a ha b hb
      obtain ⟨c, hc, rfl⟩ := List.mem_map.mp hb
      have := (h2 a ha).2.1
      have := (h.inn c hc).1
      show a.1 < q * (m : Rat) + c.1
      grind
    · rcases List.mem_append.mp hb with hb | hb
      · have := h2 b hb
        exact ⟨this.1, by grind, this.2.2⟩
      · obtain ⟨c, hc, rfl⟩ := List.mem_map.mp hb
        have := h.inn c hc
        refine ⟨?_, ?_, this.2.2⟩
        · show 0 ≤ q * (m : Rat) + c.1
          grind
        · show q * (m : Rat) + c.1 < q * ((m : Rat) + 1)
          grind
theorem nat_pos {m : Nat} (h : 0 < m) : (0 : Rat) < (m : Rat) := Rat.natCast_pos.mpr h
theorem rep_mach {q : Rat} {F : List Beat} (h : Mach q F) {m : Nat} (hm : 0 < m) : Mach (q * (m : Rat)) (rep q F m) :=
  ⟨Rat.mul_pos h.pos (nat_pos hm), (rep_props h m).1, (rep_props h m).2⟩
theorem rep_snd {q : Rat} {F : List Beat} (h : Mach q F) {m : Nat} (hm : 0 < m) (t : Rat) : snd (q * (m : Rat)) (rep q F m) t = snd q F t := by
  have hM := rep_mach h hm
  obtain ⟨z, e, r0, r1⟩ := rbey_split hM.pos t
  have e2 : rbey t q = rbey (rbey t (q * (m : Rat))) q := by
    conv => lhs; rw [e]
    rw [Rat.add_comm, show q * (m : Rat) * (z : Rat) = q * (((m : Int) * z : Int) : Rat) from by rw [Rat.intCast_mul]; show q * (m : Rat) * (z : Rat) = q * ((m : Rat) * (z : Rat)); grind, rbey_add h.pos]
  unfold snd
  rw [e2]
  generalize rbey t (q * (m : Rat)) = r at r0 r1 ⊢
  obtain ⟨y, f, s0, s1⟩ := rbey_split h.pos r
  refine look_congr hM.asc h.asc hM.full h.full fun s => ⟨fun hs => ?_, fun hs => ?_⟩
  · obtain ⟨j, hj, b, hb, eb⟩ := mem_rep.mp hs
    have e1 := congrArg Prod.fst eb
    have e3 := congrArg Prod.snd eb
    simp only at e1 e3
    have := h.inn b hb
    rw [rbey_of (z := (j : Int)) e1 this.1 this.2.1, e3]
    exact hb
  · have y0 : 0 ≤ y := by
      have : (-1 : Int) < y := by
        rw [← Rat.intCast_lt_intCast]
        refine Rat.lt_of_mul_lt_mul_left (c := q) ?_ (Rat.le_of_lt h.pos)
        show q * -1 < q * (y : Rat)
        grind
      omega
    have y1 : y < (m : Int) := by
      rw [← Rat.intCast_lt_intCast]
      refine Rat.lt_of_mul_lt_mul_left (c := q) ?_ (Rat.le_of_lt h.pos)
      show q * (y : Rat) < q * (m : Rat)
      grind
    refine mem_rep.mpr ⟨y.toNat, by omega, _, hs, ?_⟩
    have ey : ((y.toNat : Nat) : Rat) = (y : Rat) := by
      show ((y.toNat : Int) : Rat) = (y : Rat)
      rw [Int.toNat_of_nonneg y0]
    rw [ey, ← f]
/-! ### parts of a period -/
def blk (q : Rat) (bs : List Beat) : List Beat := bs.filter fun b => decide (b.1 < q)
theorem div_nat {p : Rat} {m : Nat} (hm : 0 < m) : p / (m : Rat) * (m : Rat) = p := Rat.div_mul_cancel fun e => by have := nat_pos hm; rw [e] at this; exact Rat.lt_irrefl this
theorem div_pos {p : Rat} {m : Nat} (hp : 0 < p) (hm : 0 < m) : 0 < p / (m : Rat) := by
  rw [Rat.div_def]
  exact Rat.mul_pos hp (Rat.inv_pos.mpr (nat_pos hm))
theorem nat_ge1 {m : Nat} (hm : 0 < m) : (1 : Rat) ≤ (m : Rat) := by
  have : ((1 : Nat) : Rat) ≤ (m : Rat) := Rat.natCast_le_natCast.mpr hm
  exact this
theorem div_le {p : Rat} {m : Nat} (hp : 0 < p) (hm : 0 < m) : p / (m : Rat) ≤ p := by
  have h := div_nat (p := p) hm
  have h1 := nat_ge1 hm
  have h2 := Rat.mul_le_mul_of_nonneg_left h1 (Rat.le_of_lt (div_pos hp hm))
  rw [h, Rat.mul_one] at h2
  exact h2
theorem blk_mach {p q : Rat} {bs : List Beat} (h : Mach p bs) (hq : 0 < q) : Mach q (blk q bs) :=
  ⟨hq, h.asc.sublist List.filter_sublist, fun b hb => by
    have := List.mem_filter.mp hb
    exact ⟨(h.inn b this.1).1, of_decide_eq_true this.2, (h.inn b this.1).2.2⟩⟩
theorem look_blk {q t : Rat} {bs : List Beat} (h : Asc1 bs) (f : Full bs) (ht : t < q) : look (blk q bs) t = look bs t :=
  look_congr (h.sublist List.filter_sublist) h (fun b hb => f b (List.mem_filter.mp hb).1) f fun s => ⟨fun hs => (List.mem_filter.mp hs).1, fun hs => List.mem_filter.mpr ⟨hs, decide_eq_true ht⟩⟩
theorem blk_snd {p q : Rat} {bs : List Beat} (h : Mach p bs) (hq : 0 < q) (hl : q ≤ p) (hP : Per (snd p bs) q) (t : Rat) : snd q (blk q bs) t = snd p bs t := by
  obtain ⟨z, e, r0, r1⟩ := rbey_split hq t
  have : snd q (blk q bs) t = look (blk q bs) (rbey t q) := rfl
  rw [this, look_blk h.asc h.full r1, ← snd_in (p := p) r0 (by grind), ← hP.mulInt z, Rat.add_comm, ← e]
theorem blk_rep {p : Rat} {bs : List Beat} (h : Mach p bs) {m : Nat} (hm : 0 < m) (hP : Per (snd p bs) (p / (m : Rat))) : bs = rep (p / (m : Rat)) (blk (p / (m : Rat)) bs) m := by
  have hq := div_pos h.pos hm
  have hF := blk_mach h hq
  have hM := rep_mach hF hm
  have hd := div_nat (p := p) hm
  rw [hd] at hM
  refine h.ext hM fun t => ?_
  have := rep_snd hF hm t
  rw [hd] at this
  rw [this, blk_snd h hq (div_le h.pos hm) hP]
theorem take_rep {q : Rat} {F : List Beat} {m : Nat} (hm : 0 < m) : (rep q F m).take F.length = F := by
  have : rep q F m = (F.map fun b => (q * ((0 : Nat) : Rat) + b.1, b.2)) ++ ((List.range (m - 1)).map Nat.succ).flatMap fun j : Nat => F.map fun b => (q * (j : Rat) + b.1, b.2) := by
    obtain ⟨k, rfl⟩ : ∃ k, m = k + 1 := ⟨m - 1, by omega⟩
    unfold rep
    rw [List.range_succ_eq_map, List.flatMap_cons]
    rfl
  rw [this, List.take_append_of_le_length (by rw [List.length_map]; exact Nat.le_refl _), List.take_of_length_le (by rw [List.length_map]; exact Nat.le_refl _)]
  have z0 : ((0 : Nat) : Rat) = 0 := rfl
  conv => rhs; rw [← List.map_id F]
  refine List.map_congr_left fun b _ => ?_
  show (q * ((0 : Nat) : Rat) + b.1, b.2) = b
  rw [z0, Rat.mul_zero, Rat.zero_add]
theorem asc_le {bs : List Beat} (h : Asc1 bs) {i j : Nat} (hij : i ≤ j) (hj : j < bs.length) : (bAt bs i).1 ≤ (bAt bs j).1 := by
  have gi := bAt_get (show i < bs.length by omega)
  have gj := bAt_get hj
  rw [List.getElem?_eq_getElem (by omega)] at gi gj
  rcases Nat.lt_or_eq_of_le hij with l | e
  · have := List.pairwise_iff_getElem.mp h i j (by omega) hj l
    rw [Option.some.inj gi, Option.some.inj gj] at this
    exact Rat.le_of_lt this
  · rw [e]
    exact Rat.le_refl
theorem fits_per {p : Rat} {bs : List Beat} (h : Mach p bs) {m : Nat} (hm : 0 < m) (hml : m ≤ bs.length) (hf : fits p bs m = true) : Per (snd p bs) (p / (m : Rat)) := by
  unfold fits comesRound at hf
  simp only [Bool.and_eq_true, decide_eq_true_eq, List.all_eq_true, List.mem_range] at hf
  obtain ⟨h1, h2, h3⟩ := hf
  have hq := div_pos h.pos hm
  generalize hn : bs.length = n at *
  generalize hfd : n / m = f at *
  generalize hqd : p / (m : Rat) = q at *
  have f0 : 0 < f := by rw [← hfd]; exact Nat.div_pos hml hm
  have hfn : f ≤ n := by rw [← h1]; exact Nat.le_mul_of_pos_right f hm
  have key : ∀ (i j : Nat), i < f → j < m → bAt bs (j * f + i) = (q * (j : Rat) + (bAt bs i).1, (bAt bs i).2) := by
    intro i j hi
    induction j with
    | zero =>
      intro _
      rw [Nat.zero_mul, Nat.zero_add, show ((0 : Nat) : Rat) = 0 from rfl, Rat.mul_zero, Rat.zero_add]
    | succ j ih =>
      intro hj
      have e := ih (by omega)
      have lt : j * f + i < n - f := by
        have := Nat.mul_le_mul_right f (show j + 2 ≤ m from hj)
        rw [Nat.mul_comm m f, h1, Nat.add_mul] at this
        omega
      obtain ⟨g1, g2⟩ := h3 _ lt
      rw [e] at g1 g2
      rw [Nat.succ_mul, show j * f + f + i = j * f + i + f from by omega]
      simp only at g1 g2
      refine Prod.ext ?_ g1
      show (bAt bs (j * f + i + f)).1 = q * ((j + 1 : Nat) : Rat) + (bAt bs i).1
      rw [nat_succ]
      grind
  have hF : Mach q (bs.take f) := by
    refine ⟨hq, h.asc.sublist (List.take_sublist _ _), fun b hb => ?_⟩
    have hb' := List.mem_of_mem_take hb
    refine ⟨(h.inn b hb').1, ?_, (h.inn b hb').2.2⟩
    obtain ⟨i, hi, e⟩ := List.getElem_of_mem hb
    rw [List.length_take] at hi
    have gi := bAt_get (show i < bs.length by omega)
    rw [List.getElem_take] at e
    rw [List.getElem?_eq_getElem (by omega), e] at gi
    rw [Option.some.inj gi]
    have := asc_le h.asc (i := i) (j := f - 1) (by omega) (by omega)
    grind
  have hlen : (bs.take f).length = f := by rw [List.length_take, hn]; omega
  have e : bs = rep q (bs.take f) m := by
    refine bAt_ext (by rw [rep_len, hlen, hn, Nat.mul_comm]; exact h1.symm) fun x hx => ?_
    have e1 : x = x / f * f + x % f := by rw [Nat.mul_comm]; exact (Nat.div_add_mod x f).symm
    have hr : x % f < f := Nat.mod_lt _ f0
    have hj : x / f < m := by
      refine Nat.div_lt_of_lt_mul ?_
      omega
    have r := rep_at q (bs.take f) (i := x % f) (by rw [hlen]; exact hr) m (x / f) hj
    rw [hlen, ← e1] at r
    rw [r]
    have k2 := key (x % f) (x / f) hr hj
    rw [← e1] at k2
    have b2 : bAt (bs.take f) (x % f) = bAt bs (x % f) := by
      unfold bAt
      rw [List.getD_eq_getElem?_getD, List.getD_eq_getElem?_getD, List.getElem?_take_of_lt hr]
    rw [k2, b2]
  have hs : ∀ t, snd p bs t = snd q (bs.take f) t := fun t => by
    have := rep_snd hF hm t
    rw [← e, ← hqd, div_nat hm] at this
    rw [hqd] at this
    exact this
  intro t
  rw [hs, hs, snd_per hq]
theorem per_len {p : Rat} {bs : List Beat} (h : Mach p bs) {m : Nat} (hm : 0 < m) (hP : Per (snd p bs) (p / (m : Rat))) : bs.length = m * (blk (p / (m : Rat)) bs).length := by
  have e := blk_rep h hm hP
  have := congrArg List.length e
  rwa [rep_len] at this
theorem per_take {p : Rat} {bs : List Beat} (h : Mach p bs) {m : Nat} (hm : 0 < m) (hP : Per (snd p bs) (p / (m : Rat))) : bs.take (bs.length / m) = blk (p / (m : Rat)) bs := by
  have e := blk_rep h hm hP
  rw [per_len h hm hP, Nat.mul_div_cancel_left _ hm]
  generalize blk (p / (m : Rat)) bs = F at e ⊢
  rw [e]
  exact take_rep hm
theorem per_fits {p : Rat} {bs : List Beat} (h : Mach p bs) (hn : bs ≠ []) {m : Nat} (hm : 0 < m) (hP : Per (snd p bs) (p / (m : Rat))) : m ≤ bs.length ∧ fits p bs m = true := by
  have e := blk_rep h hm hP
  have el := per_len h hm hP
  have hF := blk_mach h (div_pos h.pos hm)
  have l0 : 0 < bs.length := List.length_pos_iff.mpr hn
  generalize blk (p / (m : Rat)) bs = F at e el hF
  have f0 : 0 < F.length := by
    rcases Nat.eq_zero_or_pos F.length with z | z
    · rw [z, Nat.mul_zero] at el; omega
    · exact z
  have hdv : bs.length / m = F.length := by rw [el, Nat.mul_div_cancel_left _ hm]
  refine ⟨by rw [el]; exact Nat.le_mul_of_pos_right m f0, ?_⟩
  generalize hqd : p / (m : Rat) = q at *
  unfold fits comesRound
  rw [hdv, hqd]
  simp only [Bool.and_eq_true, decide_eq_true_eq, List.all_eq_true, List.mem_range]
  have at0 : ∀ i j, i < F.length → j < m → bAt bs (j * F.length + i) = (q * (j : Rat) + (bAt F i).1, (bAt F i).2) := fun i j hi hj => by
    conv => lhs; rw [e]
    exact rep_at q F hi m j hj
  refine ⟨by rw [el, Nat.mul_comm], ?_, fun x hx => ?_⟩
  · have := at0 (F.length - 1) 0 (by omega) hm
    rw [Nat.zero_mul, Nat.zero_add] at this
    rw [this]
    show q * ((0 : Nat) : Rat) + (bAt F (F.length - 1)).1 < q
    rw [show ((0 : Nat) : Rat) = 0 from rfl, Rat.mul_zero, Rat.zero_add]
    exact (hF.inn _ (bAt_mem (by omega))).2.1
  · have e1 : x = x / F.length * F.length + x % F.length := by rw [Nat.mul_comm]; exact (Nat.div_add_mod x _).symm
    have hr : x % F.length < F.length := Nat.mod_lt _ f0
    have hj : x / F.length + 1 < m := by
      have : (x / F.length + 1) * F.length < m * F.length := by rw [Nat.succ_mul]; omega
      exact Nat.lt_of_mul_lt_mul_right this
    have k1 := at0 _ (x / F.length) hr (by omega)
    have k2 := at0 _ (x / F.length + 1) hr hj
    rw [Nat.succ_mul, show x / F.length * F.length + F.length + x % F.length = x + F.length from by omega] at k2
    rw [← e1] at k1
    rw [k1, k2, nat_succ]
    refine ⟨rfl, ?_⟩
    show q * (((x / F.length : Nat) : Rat) + 1) + (bAt F (x % F.length)).1 - (q * ((x / F.length : Nat) : Rat) + (bAt F (x % F.length)).1) = q
    grind
end BP
set_option Elab.async false
set_option linter.all false
set_option maxRecDepth 100000
set_option maxHeartbeats 4000000
/-! Q2: the least form; two rhythms of the same letters at all times have the same least form; the law's least machine. -/
namespace BP
open BR PySem
theorem mem_downs {n k : Nat} : k ∈ downs n ↔ 0 < k ∧ k ≤ n := by
  unfold downs
  rw [List.mem_map]
  constructor
  · rintro ⟨i, hi, rfl⟩
    have := List.mem_range.mp hi
    omega
  · rintro ⟨h0, h1⟩
    exact ⟨n - k, List.mem_range.mpr (by omega), by omega⟩
theorem downs_pw (n : Nat) : (downs n).Pairwise fun a b => b < a := by
  unfold downs
  refine List.pairwise_map.mpr ?_
  refine (List.pairwise_lt_range (n := n)).imp_of_mem fun {a b} ha hb l => ?_
  have := List.mem_range.mp ha
  have := List.mem_range.mp hb
  omega
theorem find_downs {c : Nat → Bool} {n m : Nat} (h : (downs n).find? c = some m) : c m = true ∧ 0 < m ∧ m ≤ n ∧ ∀ k, m < k → k ≤ n → c k = false := by
  obtain ⟨h1, as, bs, e, h2⟩ := List.find?_eq_some_iff_append.mp h
  have hm := mem_downs.mp (show m ∈ downs n from by rw [e]; simp)
  refine ⟨h1, hm.1, hm.2, fun k hk hk2 => ?_⟩
  have mk : k ∈ downs n := mem_downs.mpr ⟨by omega, hk2⟩
  have pw := downs_pw n
  rw [e] at mk pw
  rcases List.mem_append.mp mk with q | q
  · have := h2 k q
    simpa using this
  · rcases List.mem_cons.mp q with q | q
    · omega
    · have := (List.pairwise_cons.mp (List.pairwise_append.mp pw).2.1).1 k q
      omega
/-! ### periods and their greatest common part -/
theorem per_gcd {f : Rat → List Nat} {u : Rat} : ∀ (x y : Nat), Per f (u * (x : Rat)) → Per f (u * (y : Rat)) → Per f (u * (Nat.gcd x y : Nat)) := by
  intro x y
  induction x, y using Nat.gcd.induction with
  | H0 n =>
    intro _ h
    rwa [Nat.gcd_zero_left]
  | H1 m n hm ih =>
    intro h1 h2
    rw [Nat.gcd_rec]
    refine ih (fun t => ?_) h1
    rw [← h1.mulNat (n / m), ← h2 t]
    congr 1
    have e : ((n : Nat) : Rat) = (m : Rat) * ((n / m : Nat) : Rat) + ((n % m : Nat) : Rat) := by
      have := Nat.div_add_mod n m
      conv => lhs; rw [← this]
      rw [show ((m * (n / m) + n % m : Nat) : Rat) = ((m * (n / m) : Nat) : Rat) + ((n % m : Nat) : Rat) from Rat.natCast_add _ _, show ((m * (n / m) : Nat) : Rat) = (m : Rat) * ((n / m : Nat) : Rat) from Rat.natCast_mul _ _]
    rw [e]
    grind
theorem mul_den (q : Rat) : q * (q.den : Rat) = (q.num : Rat) := by
  have h := Rat.num_divInt_den q
  rw [Rat.divInt_eq_div] at h
  have hz : (q.den : Rat) ≠ 0 := fun e => by
    have := nat_pos q.den_pos
    rw [e] at this
    exact Rat.lt_irrefl this
  conv => lhs; arg 1; rw [← h]
  exact Rat.div_mul_cancel hz
theorem num_pos {q : Rat} (h : 0 < q) : 0 < q.num := by
  rw [Rat.lt_iff] at h
  simpa using h
theorem pos_nat {q : Rat} (h : 0 < q) : ∃ n : Nat, 0 < n ∧ (q.num : Rat) = (n : Rat) := by
  have := num_pos h
  refine ⟨q.num.toNat, by omega, ?_⟩
  show (q.num : Rat) = ((q.num.toNat : Int) : Rat)
  rw [Int.toNat_of_nonneg (by omega)]
/-- two lengths as whole numbers of a part -/
theorem unit2 {p q : Rat} (hp : 0 < p) (hq : 0 < q) : ∃ (u : Rat) (x y : Nat), 0 < u ∧ 0 < x ∧ 0 < y ∧ p = u * (x : Rat) ∧ q = u * (y : Rat) := by
  obtain ⟨a, a0, ea⟩ := pos_nat hp
  obtain ⟨b, b0, eb⟩ := pos_nat hq
  have dp := nat_pos p.den_pos
  have dq := nat_pos q.den_pos
  have e1 := mul_den p
  have e2 := mul_den q
  rw [ea] at e1
  rw [eb] at e2
  have hU : 0 < (p.den : Rat) * (q.den : Rat) := Rat.mul_pos dp dq
  have hc : ((p.den : Rat) * (q.den : Rat)) * ((p.den : Rat) * (q.den : Rat))⁻¹ = 1 := Rat.mul_inv_cancel _ fun e => by rw [e] at hU; exact Rat.lt_irrefl hU
  refine ⟨((p.den : Rat) * (q.den : Rat))⁻¹, a * q.den, b * p.den, Rat.inv_pos.mpr hU, Nat.mul_pos a0 q.den_pos, Nat.mul_pos b0 p.den_pos, ?_, ?_⟩
  · rw [Rat.natCast_mul, ← e1]
    generalize ((p.den : Rat) * (q.den : Rat))⁻¹ = u at hc
    generalize (p.den : Rat) = c at hc
    generalize (q.den : Rat) = d at hc
    have : u * (p * c * d) = p * (c * d * u) := by grind
    rw [this, hc, Rat.mul_one]
  · rw [Rat.natCast_mul, ← e2]
    generalize ((p.den : Rat) * (q.den : Rat))⁻¹ = u at hc
    generalize (p.den : Rat) = c at hc
    generalize (q.den : Rat) = d at hc
    have : u * (q * d * c) = q * (c * d * u) := by grind
    rw [this, hc, Rat.mul_one]
/-! ### the least form -/
structure Least (p : Rat) (bs : List Beat) : Prop where
  mach : Mach p bs
  least : bs ≠ [] → ∀ r, 0 < r → Per (snd p bs) r → ∃ b : Nat, 0 < b ∧ r = p * (b : Rat)
  triv : bs = [] → p = 1
theorem one_pos : (0 : Rat) < 1 := by decide +kernel
theorem per_one {p : Rat} {bs : List Beat} (h : Mach p bs) : Per (snd p bs) (p / ((1 : Nat) : Rat)) := by
  have : p / ((1 : Nat) : Rat) = p := by
    have := div_nat (p := p) (m := 1) (by decide)
    have e1 : ((1 : Nat) : Rat) = 1 := rfl
    rw [e1] at this ⊢
    rw [Rat.mul_one] at this
    exact this
  rw [this]
  exact snd_per h.pos bs
theorem leastForm_some {p : Rat} {bs : List Beat} (h : Mach p bs) (hn : bs ≠ []) : ∃ m, 0 < m ∧ m ≤ bs.length ∧ Per (snd p bs) (p / (m : Rat)) ∧ (∀ k : Nat, 0 < k → Per (snd p bs) (p / (k : Rat)) → k ≤ m) ∧ leastForm p bs = (p / (m : Rat), blk (p / (m : Rat)) bs) := by
  unfold leastForm
  rw [if_neg hn]
  cases hf : (downs bs.length).find? (fits p bs) with
  | none =>
    have g := per_fits h hn (m := 1) (by decide) (per_one h)
    have := List.find?_eq_none.mp hf 1 (mem_downs.mpr ⟨by decide, g.1⟩)
    exact absurd g.2 this
  | some m =>
    obtain ⟨h1, h2, h3, h4⟩ := find_downs hf
    have hP := fits_per h h2 h3 h1
    refine ⟨m, h2, h3, hP, fun k k0 hk => ?_, ?_⟩
    · have g := per_fits h hn k0 hk
      rcases Nat.lt_or_ge m k with l | l
      · have := h4 k l g.1
        rw [g.2] at this
        cases this
      · exact l
    · show (p / (m : Rat), bs.take (bs.length / m)) = _
      rw [per_take h h2 hP]
theorem leastForm_nil (p : Rat) : leastForm p [] = (1, []) := by unfold leastForm; rw [if_pos rfl]
theorem nat_inj {a b : Nat} (h : (a : Rat) = (b : Rat)) : a = b := by
  have := congrArg Rat.num h
  have : (a : Int) = (b : Int) := this
  omega
theorem snd_nil (p t : Rat) : snd p [] t = [] := rfl
theorem leastForm_ok {p : Rat} {bs : List Beat} (h : Mach p bs) : Least (leastForm p bs).1 (leastForm p bs).2 ∧ ∀ t, snd (leastForm p bs).1 (leastForm p bs).2 t = snd p bs t := by
  by_cases hn : bs = []
  · subst hn
    rw [leastForm_nil]
    exact ⟨⟨⟨one_pos, .nil, fun b hb => nomatch hb⟩, fun h => absurd rfl h, fun _ => rfl⟩, fun t => rfl⟩
  · obtain ⟨m, m0, m1, hP, hmax, e⟩ := leastForm_some h hn
    rw [e]
    have hq := div_pos h.pos m0
    have hs := blk_snd h hq (div_le h.pos m0) hP
    refine ⟨⟨blk_mach h hq, fun _ r r0 hr => ?_, fun e2 => ?_⟩, hs⟩
    · obtain ⟨u, x, y, u0, x0, y0, ex, ey⟩ := unit2 hq r0
      have hr2 : Per (snd p bs) r := fun t => by
        have := hr t
        rwa [hs, hs] at this
      have hg := per_gcd (u := u) x y (by rw [← ex]; exact hP) (by rw [← ey]; exact hr2)
      obtain ⟨a, ea⟩ := Nat.gcd_dvd_left x y
      obtain ⟨b, eb⟩ := Nat.gcd_dvd_right x y
      have g0 : 0 < Nat.gcd x y := Nat.gcd_pos_of_pos_left _ x0
      generalize Nat.gcd x y = g at hg ea eb g0
      have a0 : 0 < a := by
        rcases Nat.eq_zero_or_pos a with z | z
        · rw [z, Nat.mul_zero] at ea; omega
        · exact z
      have b0 : 0 < b := by
        rcases Nat.eq_zero_or_pos b with z | z
        · rw [z, Nat.mul_zero] at eb; omega
        · exact z
      have eq : u * (g : Rat) = p / ((m * a : Nat) : Rat) := by
        have e1 := div_nat (p := p) m0
        have e3 := div_nat (p := p) (m := m * a) (Nat.mul_pos m0 a0)
        rw [ex, ea, Rat.natCast_mul] at e1
        rw [Rat.natCast_mul] at e3 ⊢
        have z1 : (m : Rat) * (a : Rat) ≠ 0 := fun e => by
          have := Rat.mul_pos (nat_pos m0) (nat_pos a0)
          rw [e] at this
          exact Rat.lt_irrefl this
        have : u * (g : Rat) * ((m : Rat) * (a : Rat)) = p / ((m : Rat) * (a : Rat)) * ((m : Rat) * (a : Rat)) := by
          rw [e3, ← e1]
          grind
        grind
      have := hmax (m * a) (Nat.mul_pos m0 a0) (by rw [← eq]; exact hg)
      have a1 : a = 1 := by
        rcases Nat.lt_or_ge a 2 with l | l
        · omega
        · have := Nat.mul_le_mul_left m l
          omega
      refine ⟨b, b0, ?_⟩
      rw [ex, ey, ea, eb, a1, Nat.mul_one, Rat.natCast_mul]
      grind
    · obtain ⟨b, hb⟩ := List.exists_mem_of_ne_nil bs hn
      have := look_mem h.asc (t := b.1) (s := b.2) hb
      have l := h.inn b hb
      have e3 : blk (p / (m : Rat)) bs = [] := e2
      rw [← snd_in l.1 l.2.1, ← hs, e3] at this
      exact absurd this.symm l.2.2
theorem Least.silent {p : Rat} {bs : List Beat} (h : Mach p bs) : bs = [] ↔ ∀ t, snd p bs t = [] := by
  constructor
  · intro e t
    rw [e]
    rfl
  · intro hs
    refine Classical.byContradiction fun hn => ?_
    obtain ⟨b, hb⟩ := List.exists_mem_of_ne_nil bs hn
    have := look_mem h.asc (t := b.1) (s := b.2) hb
    have l := h.inn b hb
    rw [← snd_in l.1 l.2.1, hs] at this
    exact l.2.2 this.symm
theorem Least.ext {p q : Rat} {as bs : List Beat} (ha : Least p as) (hb : Least q bs) (h : ∀ t, snd p as t = snd q bs t) : (p, as) = (q, bs) := by
  have hn : as = [] ↔ bs = [] := by rw [Least.silent ha.mach, Least.silent hb.mach]; simp only [h]
  have ep : p = q := by
    by_cases e : as = []
    · rw [ha.triv e, hb.triv (hn.mp e)]
    · have hP : Per (snd q bs) p := fun t => by rw [← h, ← h]; exact snd_per ha.mach.pos as t
      have hQ : Per (snd p as) q := fun t => by rw [h, h]; exact snd_per hb.mach.pos bs t
      obtain ⟨b, b0, e1⟩ := ha.least e q hb.mach.pos hQ
      obtain ⟨c, c0, e2⟩ := hb.least (fun z => e (hn.mpr z)) p ha.mach.pos hP
      have hc1 := nat_ge1 c0
      have hb1 := nat_ge1 b0
      have l1 := Rat.mul_le_mul_of_nonneg_left hb1 (Rat.le_of_lt ha.mach.pos)
      have l2 := Rat.mul_le_mul_of_nonneg_left hc1 (Rat.le_of_lt hb.mach.pos)
      rw [← e1] at l1
      rw [← e2] at l2
      exact Rat.le_antisymm (by grind) (by grind)
  subst ep
  rw [ha.mach.ext hb.mach h]
theorem leastForm_ext {p q : Rat} {as bs : List Beat} (ha : Mach p as) (hb : Mach q bs) (h : ∀ t, snd p as t = snd q bs t) : leastForm p as = leastForm q bs := by
  obtain ⟨h1, h2⟩ := leastForm_ok ha
  obtain ⟨g1, g2⟩ := leastForm_ok hb
  have := h1.ext g1 fun t => by rw [h2, g2, h]
  exact this
theorem leastForm_inj {p q : Rat} {as bs : List Beat} (ha : Mach p as) (hb : Mach q bs) (h : leastForm p as = leastForm q bs) (t : Rat) : snd p as t = snd q bs t := by
  rw [← (leastForm_ok ha).2, ← (leastForm_ok hb).2, h]
theorem leastForm_self {p : Rat} {bs : List Beat} (h : Least p bs) : leastForm p bs = (p, bs) := by
  obtain ⟨h1, h2⟩ := leastForm_ok h.mach
  exact h1.ext h h2
/-! ### the law's least machine -/
def goodq (p : Rat) (bs : List Beat) (q : Rat) : Bool := bs.all fun b => decide (look bs (if b.1 + q < p then b.1 + q else b.1 + q + -p) = b.2)
theorem good_iff {p : Rat} {bs : List Beat} (h : Mach p bs) {m : Nat} (hm : 0 < m) : goodq p bs (p / (m : Rat)) = true ↔ Per (snd p bs) (p / (m : Rat)) := by
  have hq := div_pos h.pos hm
  have hl := div_le h.pos hm
  have hd := div_nat (p := p) hm
  generalize p / (m : Rat) = q at hq hl hd ⊢
  have red : ∀ b ∈ bs, look bs (if b.1 + q < p then b.1 + q else b.1 + q + -p) = snd p bs (b.1 + q) := fun b hb => by
    have l := h.inn b hb
    by_cases c : b.1 + q < p
    · rw [if_pos c, snd_in (by grind) c]
    · have e1 := snd_per h.pos bs (b.1 + q + -p)
      rw [show b.1 + q + -p + p = b.1 + q from by grind] at e1
      rw [if_neg c, e1, snd_in (by grind) (by grind)]
  unfold goodq
  rw [List.all_eq_true]
  simp only [decide_eq_true_eq]
  constructor
  · intro hg
    have s1 : ∀ t, snd p bs t ≠ [] → snd p bs (t + q) = snd p bs t := fun t ht => by
      obtain ⟨z, e, r0, r1⟩ := rbey_split h.pos t
      have mem : (rbey t p, snd p bs t) ∈ bs := look_ne ht
      have := hg _ mem
      rw [red _ mem] at this
      simp only at this
      rw [← this]
      conv => lhs; rw [e]
      rw [show p * (z : Rat) + rbey t p + q = rbey t p + q + p * (z : Rat) from by grind, snd_add h.pos, this]
    have s2 : ∀ (k : Nat) (t : Rat), snd p bs t ≠ [] → snd p bs (t + q * (k : Rat)) = snd p bs t := fun k => by
      induction k with
      | zero => intro t _; rw [show ((0 : Nat) : Rat) = 0 from rfl, Rat.mul_zero, Rat.add_zero]
      | succ k ih =>
        intro t ht
        have e := ih t ht
        rw [nat_succ, show t + q * ((k : Rat) + 1) = t + q * (k : Rat) + q from by grind, s1 _ (by rw [e]; exact ht), e]
    intro t
    by_cases ht : snd p bs t = []
    · by_cases hu : snd p bs (t + q) = []
      · rw [ht, hu]
      · have := s2 (m - 1) _ hu
        have em : ((m : Nat) : Rat) = ((m - 1 : Nat) : Rat) + 1 := by
          rw [← nat_succ, Nat.sub_add_cancel hm]
        rw [show t + q + q * ((m - 1 : Nat) : Rat) = t + p from by rw [← hd, em]; grind, snd_per h.pos, ht] at this
        exact absurd this.symm hu
    · exact s1 t ht
  · intro hP b hb
    rw [red b hb, hP]
    have l := h.inn b hb
    rw [snd_in l.1 l.2.1]
    exact look_mem h.asc hb
def ups (n : Nat) : List Nat := (List.range (n - 1)).map fun i => i + 2
def lawLeast (p : Rat) (bs : List Beat) : Rat × List Beat := if bs = [] then (1, []) else (ups bs.length).foldl (fun best (m : Nat) => if goodq p bs (p / (m : Rat)) then (p / (m : Rat), blk (p / (m : Rat)) bs) else best) (p, bs)
theorem fold_last {β : Type} (c : Nat → Bool) (g : Nat → β) (a : β) : ∀ k : Nat,
    (((List.range k).map fun i => i + 2).foldl (fun best m => if c m then g m else best) a = a ∧ ∀ m, 2 ≤ m → m < k + 2 → c m = false) ∨
    ∃ m, 2 ≤ m ∧ m < k + 2 ∧ c m = true ∧ (∀ j, m < j → j < k + 2 → c j = false) ∧ ((List.range k).map fun i => i + 2).foldl (fun best m => if c m then g m else best) a = g m
  | 0 => .inl ⟨rfl, fun m h1 h2 => by omega⟩
  | k + 1 => by
    rw [List.range_succ, List.map_append, List.foldl_append, List.map_singleton, List.foldl_cons, List.foldl_nil]
    cases hc : c (k + 2) with
    | true =>
      rw [if_pos rfl]
      exact .inr ⟨k + 2, by omega, by omega, hc, fun j h1 h2 => by omega, rfl⟩
    | false =>
      rw [if_neg Bool.false_ne_true]
      rcases fold_last c g a k with ⟨e, h⟩ | ⟨m, h1, h2, h3, h4, e⟩
      · refine .inl ⟨e, fun m l1 l2 => ?_⟩
        by_cases q : m = k + 2
        · rw [q, hc]
        · exact h m l1 (by omega)
      · refine .inr ⟨m, h1, by omega, h3, fun j l1 l2 => ?_, e⟩
        by_cases q : j = k + 2
        · rw [q, hc]
        · exact h4 j l1 (by omega)
theorem div_one (p : Rat) : p / ((1 : Nat) : Rat) = p := by
  have := div_nat (p := p) (m := 1) (by decide)
  have e1 : ((1 : Nat) : Rat) = 1 := rfl
  rw [e1] at this ⊢
  rw [Rat.mul_one] at this
  exact this
theorem blk_all {p : Rat} {bs : List Beat} (h : Mach p bs) : blk p bs = bs := List.filter_eq_self.mpr fun b hb => decide_eq_true (h.inn b hb).2.1
theorem lawLeast_ok {p : Rat} {bs : List Beat} (h : Mach p bs) : lawLeast p bs = leastForm p bs := by
  by_cases hn : bs = []
  · subst hn
    rw [leastForm_nil]
    unfold lawLeast
    rw [if_pos rfl]
  · obtain ⟨m, m0, m1, hP, hmax, e⟩ := leastForm_some h hn
    have l0 : 0 < bs.length := List.length_pos_iff.mpr hn
    rw [e]
    unfold lawLeast ups
    rw [if_neg hn]
    rcases fold_last (fun m => goodq p bs (p / (m : Rat))) (fun m : Nat => (p / (m : Rat), blk (p / (m : Rat)) bs)) (p, bs) (bs.length - 1) with ⟨e2, g⟩ | ⟨k, k2, k3, gk, g, e2⟩
    · rw [e2]
      have : m = 1 := by
        rcases Nat.lt_or_ge m 2 with l | l
        · omega
        · have q := g m l (by omega)
          have := (good_iff h m0).mpr hP
          rw [this] at q
          cases q
      rw [this, div_one, blk_all h]
    · rw [e2]
      have hPk := (good_iff h (m := k) (by omega)).mp gk
      have := hmax k (by omega) hPk
      have : m = k := by
        rcases Nat.lt_or_ge k m with l | l
        · have q := g m l (by omega)
          have := (good_iff h m0).mpr hP
          rw [this] at q
          cases q
        · omega
      rw [this]
end BP
set_option Elab.async false
set_option linter.all false
set_option maxRecDepth 100000
set_option maxHeartbeats 4000000
/-! M2: a law's own fractions: _law_frac, _law_sum, _law_times, _law_less, _law_lcm. -/
namespace BP
open BR PySem
section
variable {T : Nat → Option Fn} {k : Nat} {st : Store}
theorem gcd_turn4 {c : BM} {b : SM} {u v : SV} (hc : ∀ (x y : Nat), c [u, v, .val (.int x), .val (.int y)] st = .ok (decide (0 < y)) st)
    (hb : ∀ (x y : Nat), 0 < y → b [u, v, .val (.int x), .val (.int y)] st = .next [u, v, .val (.int y), .val (.int ((x % y : Nat) : Int))] st) :
    ∀ (n : Nat) (x y : Nat), y < n → whileGo c b n [u, v, .val (.int x), .val (.int y)] st = .next [u, v, .val (.int (Nat.gcd x y)), .val (.int 0)] st
  | 0, _, _, h => absurd h (Nat.not_lt_zero _)
  | n + 1, x, y, h => by
    rw [whileGo_succ, hc, bindS_ok]
    by_cases hy : 0 < y
    · have lt : x % y < y := Nat.mod_lt _ hy
      rw [decide_eq_true hy, if_pos rfl, hb x y hy, loop_next, gcd_turn4 hc hb n y (x % y) (by omega), Nat.gcd_comm y, ← Nat.gcd_rec, Nat.gcd_comm]
    · have e : y = 0 := by omega
      subst e
      rw [decide_eq_false hy, if_neg Bool.false_ne_true, Nat.gcd_zero_right]
      rfl
theorem lfrac_ok (h : Has T [161]) (hk : 0 < k) {n p : Int} (hp : 0 < p) (hp2 : p.natAbs < 2 ^ 9000) : runFn T k 161 [.int n, .int p] st = .ok (.val (fr (Rat.divInt n p))) st := by
  rw [run_at (h.at 161) hk]
  unfold b161
  have e := gcd_turn4 (st := st) (u := .val (.int n)) (v := .val (.int p)) (c := tVal (eOp2 pGt (eVar 3) (eC (.int 0)))) (b := sPar 2 3 (fVal (eVar 3)) (fVal (eOp2 pMod (eVar 2) (eVar 3))))
    (fun x y => by simp) (fun x y hy => by
      have h0 : (0 : Int) < y := by omega
      simp [pMod_int h0]) fuel n.natAbs p.natAbs (Nat.lt_of_lt_of_le hp2 fuel_ge)
  have g := gcd_le (n := n) hp
  have sg : small (Int.gcd n p : Int) = true := small_nat (Nat.lt_of_le_of_lt (by omega) hp2)
  have ea : (p.natAbs : Int) = p := Int.natAbs_of_nonneg (by omega)
  have eg : ((Nat.gcd n.natAbs p.natAbs : Nat) : Int) = (Int.gcd n p : Nat) := rfl
  rw [eg, ea] at e
  generalize hG : (Int.gcd n p : Nat) = G at e g sg
  have ed := fr_div (n := n) hp
  rw [hG] at ed
  simp [nAbs_int, sWhile, e, pDiv_int g.1 sg, ed]
variable {a b : Rat}
theorem lsum_ok (h : Has T [161, 162]) (hk : 1 < k) (ha : Fit 4000 a) (hb : Fit 4000 b) : runFn T k 162 [fr a, fr b] st = .ok (.val (fr (a + b))) st := by
  rw [run_at (h.at 162) (by omega)]
  have e := lfrac_ok (k := k - 1) (st := st) (T := T) h.sub (by omega) (n := a.num * b.den + b.num * a.den) (p := a.den * b.den) (Int.mul_pos (den_pos' a) (den_pos' b))
    (by
      rw [← Int.natCast_mul, Int.natAbs_natCast]
      exact Nat.lt_of_lt_of_le (lt_mul ha.2 hb.2) (by decide +kernel))
  rw [← Int.natCast_mul, Rat.divInt_ofNat, ← Rat.add_def', Int.natCast_mul] at e
  unfold b162
  simp [e, pMul_int (ha.sn (by decide)) (hb.sd (by decide)), pMul_int (hb.sn (by decide)) (ha.sd (by decide)), pMul_int (ha.sd (by decide)) (hb.sd (by decide))]
theorem ltimes_ok (h : Has T [161, 163]) (hk : 1 < k) (ha : Fit 4000 a) (hb : Fit 4000 b) : runFn T k 163 [fr a, fr b] st = .ok (.val (fr (a * b))) st := by
  rw [run_at (h.at 163) (by omega)]
  have e := lfrac_ok (k := k - 1) (st := st) (T := T) h.sub (by omega) (n := a.num * b.num) (p := a.den * b.den) (Int.mul_pos (den_pos' a) (den_pos' b))
    (by
      rw [← Int.natCast_mul, Int.natAbs_natCast]
      exact Nat.lt_of_lt_of_le (lt_mul ha.2 hb.2) (by decide +kernel))
  rw [← Int.natCast_mul, Rat.divInt_ofNat, ← Rat.mul_def', Int.natCast_mul] at e
  unfold b163
  simp [e, pMul_int (ha.sn (by decide)) (hb.sn (by decide)), pMul_int (ha.sd (by decide)) (hb.sd (by decide))]
theorem lless_ok (h : Has T [164]) (hk : 0 < k) (ha : Fit 9000 a) (hb : Fit 9000 b) : runFn T k 164 [fr a, fr b] st = .ok (.val (.bl (decide (a < b)))) st := by
  rw [run_at (h.at 164) (by omega)]
  unfold b164
  simp [Rat.lt_iff, pMul_int (ha.sn (by decide)) (hb.sd (by decide)), pMul_int (hb.sn (by decide)) (ha.sd (by decide))]
theorem llcm_ok (h : Has T [161, 165]) (hk : 1 < k) {x y : Int} (hx : 0 < x) (hy : 0 < y) (fx : x.natAbs < 2 ^ 9000) (fy : y.natAbs < 2 ^ 9000) : runFn T k 165 [.int x, .int y] st = .ok (.val (.int (Int.lcm x y))) st := by
  rw [run_at (h.at 165) (by omega)]
  have e := lfrac_ok (k := k - 1) (st := st) (T := T) h.sub (by omega) (n := x) hy fy
  have g := gcd_le (n := x) hy
  rw [fr_div hy] at e
  have sx : small (y / (Int.gcd x y : Int)) = true := small_nat (Nat.lt_of_le_of_lt (Int.natAbs_ediv_le_natAbs _ _) fy)
  have q : x * (y / (Int.gcd x y : Int)) = (Int.lcm x y : Int) := by
    obtain ⟨c, hc⟩ := Int.gcd_dvd_right x y
    have h1 : (Int.gcd x y : Int) * (Int.lcm x y : Int) = x * y := by
      rw [← Int.natCast_mul, Int.gcd_mul_lcm]
      rw [Int.natCast_mul, Int.natAbs_of_nonneg (by omega), Int.natAbs_of_nonneg (by omega)]
    have h2 : y / (Int.gcd x y : Int) = c := Int.ediv_eq_of_eq_mul_right (by omega) hc
    rw [h2]
    apply Int.eq_of_mul_eq_mul_left (a := (Int.gcd x y : Int)) (by omega)
    rw [h1]
    conv => rhs; rw [hc]
    ac_rfl
  unfold b165
  simp [e, pMul_int (small_nat fx) sx, q]
theorem fr_neg0 (q : Rat) : PV.tup [.int (-q.num), .int (q.den : Int)] = fr (-q) := rfl
theorem fr_inv {q : Rat} (h : 0 < q) : PV.tup [.int (q.den : Int), .int q.num] = fr q⁻¹ := by
  have hn := num_pos h
  unfold fr
  rw [Rat.num_inv, Rat.den_inv, Int.sign_eq_one_of_pos hn, Int.one_mul, if_neg (by omega), Int.natAbs_of_nonneg (by omega)]
theorem fr_inv_nat {m : Nat} (h : 0 < m) : PV.tup [.int 1, .int (m : Int)] = fr (m : Rat)⁻¹ := fr_inv (nat_pos h)
theorem fit_inv {n : Nat} {q : Rat} (h : Fit n q) (h0 : 0 < q) : Fit n q⁻¹ := by
  have hn := num_pos h0
  refine ⟨?_, ?_⟩
  · rw [Rat.num_inv, Int.sign_eq_one_of_pos hn, Int.one_mul, Int.natAbs_natCast]
    exact h.2
  · rw [Rat.den_inv, if_neg (by omega)]
    exact h.1
theorem fit_nat {m n : Nat} (h : m < 2 ^ n) (h0 : 0 < n) : Fit n (m : Rat) := fit_int (n := (m : Int)) (by simpa using h) h0
/-! ### loops that change the store -/
theorem forGo_st {α : Type} {g : GM} {body : SM} (b : α → PV) (ys : List α) (Q : List α → BR.Env → Store → Prop)
    (h : ∀ pre y post ρ st, ys = pre ++ y :: post → Q pre ρ st → ∃ ρ1 st1 ρ2 st2, g (b y) ρ st = some (ρ1, st1) ∧ (body ρ1 st1 = .next ρ2 st2 ∨ body ρ1 st1 = .cnt ρ2 st2) ∧ Q (pre ++ [y]) ρ2 st2) {ρ : BR.Env} {st : Store} (q : Q [] ρ st) :
    ∃ ρ' st', forGo g body (ys.map b) ρ st = .next ρ' st' ∧ Q ys ρ' st' := by
  suffices ∀ (post pre : List α) (ρ : BR.Env) (st : Store), ys = pre ++ post → Q pre ρ st → ∃ ρ' st', forGo g body (post.map b) ρ st = .next ρ' st' ∧ Q ys ρ' st' from this ys [] ρ st rfl q
  intro post
  induction post with
  | nil =>
    intro pre ρ st e q
    rw [List.append_nil] at e
    exact ⟨ρ, st, rfl, by rw [e]; exact q⟩
  | cons y post ih =>
    intro pre ρ st e q
    obtain ⟨ρ1, st1, ρ2, st2, h1, h2, h3⟩ := h pre y post ρ st e q
    obtain ⟨ρ', st', e', q'⟩ := ih (pre ++ [y]) ρ2 st2 (by rw [e, List.append_assoc]; rfl) h3
    refine ⟨ρ', st', ?_, q'⟩
    rw [List.map_cons, forGo_cons h1]
    rcases h2 with h2 | h2
    · rw [h2, loop_next, e']
    · rw [h2, loop_cnt, e']
end
end BP
set_option Elab.async false
set_option linter.all false
set_option maxRecDepth 100000
set_option maxHeartbeats 4000000
/-! M3: a law's own machines: _law_least, _law_between, _law_sound. -/
namespace BP
open BR PySem
section
variable {T : Nat → Option Fn} {k : Nat} {st : Store}
theorem pEq_str {a b : List Nat} (ha : Txt a) (hb : Txt b) : pEq (.str a) (.str b) = some (.bl (decide (a = b))) := by
  unfold pEq
  have h1 : BR.plain 8 (.str a) = true := by unfold BR.plain; exact ha
  have h2 : BR.plain 8 (.str b) = true := by unfold BR.plain; exact hb
  rw [h1, h2]
  rfl
/-- a tuple or a list of beats -/
structure BeatsPV (B : PV) (bs : List Beat) : Prop where
  it : itemsOf B = some (bs.map bt)
  len : ∀ st, nLenS B st = some (.int bs.length)
  tup : nTuple [B] = some (.tup (bs.map bt))
  dct : Apart bs → nDict [B] = some (.dct (bs.map fun b => fr b.1) (bs.map fun b => .str b.2))
theorem nDict_bt2 {bs : List Beat} (h : Apart bs) : nDict [.lst (bs.map bt)] = some (.dct (bs.map fun b => fr b.1) (bs.map fun b => .str b.2)) := nDict_bt h
theorem beats_tup (bs : List Beat) : BeatsPV (.tup (bs.map bt)) bs := ⟨rfl, fun st => by rw [nLenS_tup, List.length_map], rfl, nDict_bt⟩
theorem beats_lst (bs : List Beat) : BeatsPV (.lst (bs.map bt)) bs := ⟨rfl, fun st => by rw [nLenS_lst, List.length_map], rfl, nDict_bt2⟩
theorem dget_ok {ρ : BR.Env} {m n : EM} {bs : List Beat} {t : Rat} (h1 : m ρ st = .ok (.dct (bs.map fun b => fr b.1) (bs.map fun b => .str b.2)) st) (h2 : n ρ st = .ok (fr t) st) :
    eDGet m n (eC (.str [])) ρ st = .ok (.str (look bs t)) st := by
  unfold eDGet
  rw [h1, bind_ok]
  simp only
  rw [h2, bind_ok, eC_ev, bind_ok, kok_fr, if_pos rfl, dGet_bt]
theorem fold_and {α : Type} (p : α → Bool) : ∀ (l : List α) (b : Bool), l.foldl (fun g x => g && p x) b = (b && l.all p)
  | [], b => by simp
  | x :: l, b => by rw [List.foldl_cons, fold_and p l, List.all_cons, Bool.and_assoc]
def inGood (call : CallT) : SM := sSeq (sSet 9 (fVal (eFrz (fCall call 162 (aCons (eVar 7) (aCons (eVar 5) (aNil))))))) (sSeq (sIf (tNot (tVal (eFrz (fCall call 164 (aCons (eVar 9) (aCons (eVar 0) (aNil))))))) (sSet 9 (fVal (eFrz (fCall call 162 (aCons (eVar 9) (aCons (eTup (aCons (eOp2 pSub (eC (.int 0)) (eOp2S pIdxS (eVar 0) (eC (.int 0)))) (aCons (eOp2S pIdxS (eVar 0) (eC (.int 1))) (aNil)))) (aNil))))))) (sNil)) (sSet 6 (fVal (eAnd (eVar 6) (eOp2 pEq (eDGet (eVar 3) (eVar 9) (eC (.str []))) (eVar 8))))))
def dctB (bs : List Beat) : PV := .dct (bs.map fun b => fr b.1) (bs.map fun b => .str b.2)
theorem inGood_ok (h : Has T [161, 162, 164]) (hk : 1 < k) {p q : Rat} {bs : List Beat} (hp : Fit 1000 p) (hq : Fit 1000 q) {b : Beat} (fb : Fit 900 b.1) (tb : Txt b.2) (tbs : ∀ b ∈ bs, Txt b.2) {B s2 c4 c9 c10 : SV} {g : Bool} :
    inGood (runFn T k) [.val (fr p), B, s2, .val (dctB bs), c4, .val (fr q), .val (.bl g), .val (fr b.1), .val (.str b.2), c9, c10] st =
      .next [.val (fr p), B, s2, .val (dctB bs), c4, .val (fr q), .val (.bl (g && decide (look bs (if b.1 + q < p then b.1 + q else b.1 + q + -p) = b.2))), .val (fr b.1), .val (.str b.2), .val (fr (if b.1 + q < p then b.1 + q else b.1 + q + -p)), c10] st := by
  have e1 := lsum_ok (k := k) (st := st) (T := T) h.sub hk (fb.mono (by decide)) (hq.mono (by decide))
  have f1 := fit_add fb hq
  have e2 := lless_ok (k := k) (st := st) (T := T) h.sub (by omega) (f1.mono (by decide)) (hp.mono (by decide))
  have fn : Fit 1000 (-p) := ⟨by rw [Rat.neg_num, Int.natAbs_neg]; exact hp.1, hp.2⟩
  have e3 := lsum_ok (k := k) (st := st) (T := T) h.sub hk (f1.mono (by decide)) (fn.mono (by decide))
  have zn : PV.tup [.int (0 - p.num), .int (p.den : Int)] = fr (-p) := by rw [Int.zero_sub]; exact fr_neg0 p
  unfold inGood
  have tail : ∀ w : Rat, sSet 6 (fVal (eAnd (eVar 6) (eOp2 pEq (eDGet (eVar 3) (eVar 9) (eC (.str []))) (eVar 8)))) [.val (fr p), B, s2, .val (dctB bs), c4, .val (fr q), .val (.bl g), .val (fr b.1), .val (.str b.2), .val (fr w), c10] st =
      .next [.val (fr p), B, s2, .val (dctB bs), c4, .val (fr q), .val (.bl (g && decide (look bs w = b.2))), .val (fr b.1), .val (.str b.2), .val (fr w), c10] st := fun w => by
    have d1 := dget_ok (st := st) (ρ := [.val (fr p), B, s2, .val (dctB bs), c4, .val (fr q), .val (.bl g), .val (fr b.1), .val (.str b.2), .val (fr w), c10]) (m := eVar 3) (n := eVar 9) (bs := bs) (t := w) rfl rfl
    have q1 := pEq_str (look_txt (t := w) tbs) tb
    cases g with
    | true => simp [d1, q1]
    | false => simp
  by_cases c : b.1 + q < p
  · rw [if_pos c]
    rw [decide_eq_true c] at e2
    have t := tail (b.1 + q)
    rw [sSeq_ev, show sSet 9 (fVal (eFrz (fCall (runFn T k) 162 (aCons (eVar 7) (aCons (eVar 5) (aNil)))))) [.val (fr p), B, s2, .val (dctB bs), c4, .val (fr q), .val (.bl g), .val (fr b.1), .val (.str b.2), c9, c10] st = .next [.val (fr p), B, s2, .val (dctB bs), c4, .val (fr q), .val (.bl g), .val (fr b.1), .val (.str b.2), .val (fr (b.1 + q)), c10] st from by simp [e1], seq_next]
    rw [sSeq_ev, show sIf (tNot (tVal (eFrz (fCall (runFn T k) 164 (aCons (eVar 9) (aCons (eVar 0) (aNil))))))) (sSet 9 (fVal (eFrz (fCall (runFn T k) 162 (aCons (eVar 9) (aCons (eTup (aCons (eOp2 pSub (eC (.int 0)) (eOp2S pIdxS (eVar 0) (eC (.int 0)))) (aCons (eOp2S pIdxS (eVar 0) (eC (.int 1))) (aNil)))) (aNil))))))) (sNil) [.val (fr p), B, s2, .val (dctB bs), c4, .val (fr q), .val (.bl g), .val (fr b.1), .val (.str b.2), .val (fr (b.1 + q)), c10] st = .next [.val (fr p), B, s2, .val (dctB bs), c4, .val (fr q), .val (.bl g), .val (fr b.1), .val (.str b.2), .val (fr (b.1 + q)), c10] st from by simp [e2], seq_next]
    exact t
  · rw [if_neg c]
    rw [decide_eq_false c] at e2
    have t := tail (b.1 + q + -p)
    rw [sSeq_ev, show sSet 9 (fVal (eFrz (fCall (runFn T k) 162 (aCons (eVar 7) (aCons (eVar 5) (aNil)))))) [.val (fr p), B, s2, .val (dctB bs), c4, .val (fr q), .val (.bl g), .val (fr b.1), .val (.str b.2), c9, c10] st = .next [.val (fr p), B, s2, .val (dctB bs), c4, .val (fr q), .val (.bl g), .val (fr b.1), .val (.str b.2), .val (fr (b.1 + q)), c10] st from by simp [e1], seq_next]
    rw [sSeq_ev, show sIf (tNot (tVal (eFrz (fCall (runFn T k) 164 (aCons (eVar 9) (aCons (eVar 0) (aNil))))))) (sSet 9 (fVal (eFrz (fCall (runFn T k) 162 (aCons (eVar 9) (aCons (eTup (aCons (eOp2 pSub (eC (.int 0)) (eOp2S pIdxS (eVar 0) (eC (.int 0)))) (aCons (eOp2S pIdxS (eVar 0) (eC (.int 1))) (aNil)))) (aNil))))))) (sNil) [.val (fr p), B, s2, .val (dctB bs), c4, .val (fr q), .val (.bl g), .val (fr b.1), .val (.str b.2), .val (fr (b.1 + q)), c10] st = .next [.val (fr p), B, s2, .val (dctB bs), c4, .val (fr q), .val (.bl g), .val (fr b.1), .val (.str b.2), .val (fr (b.1 + q + -p)), c10] st from by simp [e2, -Int.zero_sub, zn, e3], seq_next]
    exact t
theorem ups_pv {n : Nat} (h0 : 0 < n) (hn : n ≤ lim) : rng2 (.int 2) (.int ((n : Int) + 1)) = some ((ups n).map fun m : Nat => PV.int (m : Int)) := by
  have hlim : lim = 1000000 := rfl
  rw [rng2_nums (by decide) (by omega)]
  unfold ups nums
  rw [List.map_map, List.map_map, show ((n : Int) + 1 - 2).toNat = n - 1 from by omega]
  refine congrArg some (List.map_congr_left fun a _ => ?_)
  simp only [Function.comp_apply, PV.int.injEq]
  omega
theorem mem_ups {n m : Nat} : m ∈ ups n ↔ 2 ≤ m ∧ m ≤ n := by
  unfold ups
  rw [List.mem_map]
  constructor
  · rintro ⟨i, hi, rfl⟩
    have := List.mem_range.mp hi
    omega
  · rintro ⟨h0, h1⟩
    exact ⟨m - 2, List.mem_range.mpr (by omega), by omega⟩
theorem lleast_ok {id : Nat} (hT : T id = some fn185) (h : Has T [161, 162, 163, 164]) (hk : 2 < k) {p : Rat} {bs : List Beat} {B : PV} (hB : BeatsPV B bs) (ha : Apart bs) (hp : Fit 900 p) (hb : ∀ b ∈ bs, Fit 900 b.1 ∧ Txt b.2) (hl : bs.length ≤ lim) :
    runFn T k id [fr p, B] st = .ok (.val (lf (lawLeast p bs))) st := by
  have hlim : lim = 1000000 := rfl
  rw [run_at hT (by omega)]
  unfold lawLeast
  by_cases hn : bs = []
  · subst hn
    rw [if_pos rfl]
    have e1 := hB.len st
    unfold b185 lf
    simp [e1]
    rfl
  · rw [if_neg hn]
    have l0 : 0 < bs.length := List.length_pos_iff.mpr hn
    have e1 := hB.len st
    have e2 := hB.tup
    have e3 := hB.dct ha
    have e4 := ups_pv l0 hl
    have n0 : ¬ (bs.length : Int) = 0 := by omega
    have turn : ∀ (m : Nat) (best : Rat × List Beat) (c4 c5 c6 c7 c8 c9 c10 : SV), m ∈ ups bs.length → ∃ ρ2, (sSeq (sSet 5 (fVal (eFrz (fCall (runFn T (k - 1)) 163 (aCons (eVar 0) (aCons (eTup (aCons (eC (.int 1)) (aCons (eVar 4) (aNil)))) (aNil))))))) (sSeq (sSet 6 (fVal (eC (.bl true)))) (sSeq (sFor (wItems (eVar 1)) (gTup [gName 7, gName 8]) (inGood (runFn T (k - 1)))) (sIf (tVal (eVar 6)) (sSet 2 (fVal (eTup (aCons (eVar 5) (aCons (eOpN nTuple (aCons (eFrz (fLc (wItems (eVar 1)) [10] (gName 10) (tVal (eFrz (fCall (runFn T (k - 1)) 164 (aCons (eOp2S pIdxS (eVar 10) (eC (.int 0))) (aCons (eVar 5) (aNil)))))) (eVar 10))) (aNil))) (aNil)))))) (sNil))))) [.val (fr p), .val B, .val (lf best), .val (dctB bs), .val (.int (m : Int)), c5, c6, c7, c8, c9, c10] st = .next ρ2 st ∧
        ∃ d4 d5 d6 d7 d8 d9 d10, ρ2 = [.val (fr p), .val B, .val (lf (if goodq p bs (p / (m : Rat)) then (p / (m : Rat), blk (p / (m : Rat)) bs) else best)), .val (dctB bs), d4, d5, d6, d7, d8, d9, d10] := by
      intro m best c4 c5 c6 c7 c8 c9 c10 hm
      have hm := mem_ups.mp hm
      have fm : Fit 20 (m : Rat) := fit_nat (by omega) (by decide)
      have fi := fit_inv fm (nat_pos (by omega))
      have e5 := ltimes_ok (k := k - 1) (st := st) (T := T) h.sub (by omega) (hp.mono (by decide)) (fi.mono (by decide))
      have fq : Fit 1000 (p / (m : Rat)) := (fit_mul hp fi).mono (by decide)
      rw [← fr_inv_nat (by omega), ← Rat.div_def] at e5
      generalize p / (m : Rat) = q at e5 fq ⊢
      obtain ⟨ρ', e6, d7, d8, d9, rfl⟩ := forGo_rel (st := st) (g := gTup [gName 7, gName 8]) (body := inGood (runFn T (k - 1))) bt
        (fun (g : Bool) ρ => ∃ d7 d8 d9, ρ = [.val (fr p), .val B, .val (lf best), .val (dctB bs), .val (.int (m : Int)), .val (fr q), .val (.bl g), d7, d8, d9, c10])
        (fun g b => g && decide (look bs (if b.1 + q < p then b.1 + q else b.1 + q + -p) = b.2)) bs true [.val (fr p), .val B, .val (lf best), .val (dctB bs), .val (.int (m : Int)), .val (fr q), .val (.bl true), c7, c8, c9, c10]
        ⟨_, _, _, rfl⟩ (by
          rintro g _ b hb' ⟨d7, d8, d9, rfl⟩
          exact ⟨_, _, rfl, .inl (inGood_ok (k := k - 1) (T := T) (st := st) h.sub (by omega) (hp.mono (by decide)) fq (hb b hb').1 (hb b hb').2 fun c hc => (hb c hc).2), _, _, _, rfl⟩)
      rw [fold_and, Bool.true_and] at e6
      have eg : (bs.all fun b => decide (look bs (if b.1 + q < p then b.1 + q else b.1 + q + -p) = b.2)) = goodq p bs q := rfl
      rw [eg] at e6
      have e7 := fLc_of (st := st) (ρ := [.val (fr p), .val B, .val (lf best), .val (dctB bs), .val (.int (m : Int)), .val (fr q), .val (.bl true), d7, d8, d9, c10]) (w := wItems (eVar 1)) (own := [10]) (g := gName 10)
        (t := tVal (eFrz (fCall (runFn T (k - 1)) 164 (aCons (eOp2S pIdxS (eVar 10) (eC (.int 0))) (aCons (eVar 5) (aNil)))))) (e := eVar 10) bt (fun b => decide (b.1 < q)) bt bs (by simp [hB.it]) hl
        (fun b hb' => ⟨[.val (fr p), .val B, .val (lf best), .val (dctB bs), .val (.int (m : Int)), .val (fr q), .val (.bl true), d7, d8, d9, .val (bt b)], rfl, by
          have e8 := lless_ok (k := k - 1) (st := st) (T := T) h.sub (by omega) ((hb b hb').1.mono (by decide)) (fq.mono (by decide))
          have p0 : pIdxS (bt b) (.int 0) st = some (fr b.1) := rfl
          simp [p0, e8], fun _ => rfl⟩)
      have nt : nTuple [.lst ((bs.filter fun b => decide (b.1 < q)).map bt)] = some (.tup ((blk q bs).map bt)) := rfl
      have s1 : sSet 5 (fVal (eFrz (fCall (runFn T (k - 1)) 163 (aCons (eVar 0) (aCons (eTup (aCons (eC (.int 1)) (aCons (eVar 4) (aNil)))) (aNil)))))) [.val (fr p), .val B, .val (lf best), .val (dctB bs), .val (.int (m : Int)), c5, c6, c7, c8, c9, c10] st = .next [.val (fr p), .val B, .val (lf best), .val (dctB bs), .val (.int (m : Int)), .val (fr q), c6, c7, c8, c9, c10] st := by simp [e5]
      have s3 : sFor (wItems (eVar 1)) (gTup [gName 7, gName 8]) (inGood (runFn T (k - 1))) [.val (fr p), .val B, .val (lf best), .val (dctB bs), .val (.int (m : Int)), .val (fr q), .val (.bl true), c7, c8, c9, c10] st = .next [.val (fr p), .val B, .val (lf best), .val (dctB bs), .val (.int (m : Int)), .val (fr q), .val (.bl (goodq p bs q)), d7, d8, d9, c10] st := by
        rw [sFor_ev, show wItems (eVar 1) [.val (fr p), .val B, .val (lf best), .val (dctB bs), .val (.int (m : Int)), .val (fr q), .val (.bl true), c7, c8, c9, c10] st = .ok (bs.map bt) st from by simp [hB.it], bindS_ok]
        exact e6
      rw [sSeq_ev, s1, seq_next, sSeq_ev, show sSet 6 (fVal (eC (.bl true))) [.val (fr p), .val B, .val (lf best), .val (dctB bs), .val (.int (m : Int)), .val (fr q), c6, c7, c8, c9, c10] st = .next [.val (fr p), .val B, .val (lf best), .val (dctB bs), .val (.int (m : Int)), .val (fr q), .val (.bl true), c7, c8, c9, c10] st from rfl, seq_next, sSeq_ev, s3, seq_next]
      cases hg : goodq p bs q with
      | false => exact ⟨_, rfl, _, _, _, _, _, _, _, rfl⟩
      | true =>
        refine ⟨[.val (fr p), .val B, .val (lf (q, blk q bs)), .val (dctB bs), .val (.int (m : Int)), .val (fr q), .val (.bl true), d7, d8, d9, c10], ?_, _, _, _, _, _, _, _, rfl⟩
        have s4 : eOpN nTuple (aCons (eFrz (fLc (wItems (eVar 1)) [10] (gName 10) (tVal (eFrz (fCall (runFn T (k - 1)) 164 (aCons (eOp2S pIdxS (eVar 10) (eC (.int 0))) (aCons (eVar 5) (aNil)))))) (eVar 10))) (aNil)) [.val (fr p), .val B, .val (lf best), .val (dctB bs), .val (.int (m : Int)), .val (fr q), .val (.bl true), d7, d8, d9, c10] st = .ok (.tup ((blk q bs).map bt)) st := by
          rw [eOpN_ev, aCons_ev, eFrz_ev, e7, bind_ok, kFrz_ev, toPV_own, ofOpt_some, bind_ok, kCons_ev, aNil_ev, bind_ok, kCons2_ev, bind_ok, kOptN_ev, nt, ofOpt_some]
        simp [-eOpN_ev, s4]
        rfl
    obtain ⟨ρ', e5, d4, d5, d6, d7, d8, d9, d10, rfl⟩ := forGo_rel (st := st) (g := gName 4) (body := sSeq (sSet 5 (fVal (eFrz (fCall (runFn T (k - 1)) 163 (aCons (eVar 0) (aCons (eTup (aCons (eC (.int 1)) (aCons (eVar 4) (aNil)))) (aNil))))))) (sSeq (sSet 6 (fVal (eC (.bl true)))) (sSeq (sFor (wItems (eVar 1)) (gTup [gName 7, gName 8]) (inGood (runFn T (k - 1)))) (sIf (tVal (eVar 6)) (sSet 2 (fVal (eTup (aCons (eVar 5) (aCons (eOpN nTuple (aCons (eFrz (fLc (wItems (eVar 1)) [10] (gName 10) (tVal (eFrz (fCall (runFn T (k - 1)) 164 (aCons (eOp2S pIdxS (eVar 10) (eC (.int 0))) (aCons (eVar 5) (aNil)))))) (eVar 10))) (aNil))) (aNil)))))) (sNil)))))
      (fun m : Nat => PV.int (m : Int)) (fun best ρ => ∃ d4 d5 d6 d7 d8 d9 d10, ρ = [.val (fr p), .val B, .val (lf best), .val (dctB bs), d4, d5, d6, d7, d8, d9, d10])
      (fun best m => if goodq p bs (p / (m : Rat)) then (p / (m : Rat), blk (p / (m : Rat)) bs) else best) (ups bs.length) (p, bs) [.val (fr p), .val B, .val (lf (p, bs)), .val (dctB bs), .un, .un, .un, .un, .un, .un, .un] ⟨_, _, _, _, _, _, _, rfl⟩
      (by
        rintro best _ m hm ⟨d4, d5, d6, d7, d8, d9, d10, rfl⟩
        obtain ⟨ρ2, e, hρ⟩ := turn m best d4 d5 d6 d7 d8 d9 d10 hm
        exact ⟨_, _, rfl, .inl e, hρ⟩)
    have s1 : sIf (tVal (eOp2 pEq (eOp1S nLenS (eVar 1)) (eC (.int 0)))) (sRet (fVal (eTup (aCons (eTup (aCons (eC (.int 1)) (aCons (eC (.int 1)) (aNil)))) (aCons (eTup (aNil)) (aNil)))))) (sNil) [.val (fr p), .val B, .un, .un, .un, .un, .un, .un, .un, .un, .un] st = .next [.val (fr p), .val B, .un, .un, .un, .un, .un, .un, .un, .un, .un] st := by simp [e1, n0, hn]
    have s2 : sSet 2 (fVal (eTup (aCons (eVar 0) (aCons (eOpN nTuple (aCons (eVar 1) (aNil))) (aNil))))) [.val (fr p), .val B, .un, .un, .un, .un, .un, .un, .un, .un, .un] st = .next [.val (fr p), .val B, .val (lf (p, bs)), .un, .un, .un, .un, .un, .un, .un, .un] st := by simp [e2, lf]
    have s3 : sSet 3 (fVal (eOpN nDict (aCons (eVar 1) (aNil)))) [.val (fr p), .val B, .val (lf (p, bs)), .un, .un, .un, .un, .un, .un, .un, .un] st = .next [.val (fr p), .val B, .val (lf (p, bs)), .val (dctB bs), .un, .un, .un, .un, .un, .un, .un] st := by simp [e3, dctB]
    have s4 : wRng2 (eC (.int 2)) (eOp2 pAdd (eOp1S nLenS (eVar 1)) (eC (.int 1))) [.val (fr p), .val B, .val (lf (p, bs)), .val (dctB bs), .un, .un, .un, .un, .un, .un, .un] st = .ok ((ups bs.length).map fun m : Nat => PV.int (m : Int)) st := by
      have e6 : eOp2 pAdd (eOp1S nLenS (eVar 1)) (eC (.int 1)) [.val (fr p), .val B, .val (lf (p, bs)), .val (dctB bs), .un, .un, .un, .un, .un, .un, .un] st = .ok (.int ((bs.length : Int) + 1)) st := by simp [e1]
      rw [wRng2_ev, eC_ev, bind_ok, kLs2_ev, e6, bind_ok, kLs_ev, e4, ofOpt_some]
    unfold inGood at e5
    unfold b185
    show BR.finish (sSeq _ _ [.val (fr p), .val B, .un, .un, .un, .un, .un, .un, .un, .un, .un] st) = _
    rw [sSeq_ev, s1, seq_next, sSeq_ev, s2, seq_next, sSeq_ev, s3, seq_next, sSeq_ev, sFor_ev, s4, bindS_ok, kFor_ev, e5, seq_next]
    rfl
end
end BP
set_option Elab.async false
set_option linter.all false
set_option maxRecDepth 100000
set_option maxHeartbeats 4000000
/-! M4: _law_between, _law_sound. -/
namespace BP
open BR PySem
section
variable {T : Nat → Option Fn} {k : Nat} {st : Store}
def bwIn (call : CallT) : SM := sSeq (sSet 9 (fVal (eFrz (fCall call 162 (aCons (eFrz (fCall call 163 (aCons (eVar 4) (aCons (eTup (aCons (eVar 6) (aCons (eC (.int 1)) (aNil)))) (aNil))))) (aCons (eVar 7) (aNil))))))) (sIf (tAnd (tNot (tVal (eFrz (fCall call 164 (aCons (eVar 9) (aCons (eVar 1) (aNil))))))) (tVal (eFrz (fCall call 164 (aCons (eVar 9) (aCons (eVar 2) (aNil))))))) (sApp 3 (eTup (aCons (eVar 9) (aCons (eVar 8) (aNil))))) (sNil))
theorem hits_append (p : Rat) (as bs : List Beat) (s e : Rat) (t : Int) : hits p (as ++ bs) s e t = hits p as s e t ++ hits p bs s e t := by
  unfold hits
  rw [List.map_append, List.filter_append]
theorem hits_one (p : Rat) (b : Beat) (s e : Rat) (t : Int) : hits p [b] s e t = if !decide (p * t + b.1 < s) && decide (p * t + b.1 < e) then [(p * t + b.1, b.2)] else [] := by
  unfold hits
  simp only [List.map_cons, List.map_nil, List.filter_cons, List.filter_nil]
theorem bwIn_ok (h : Has T [161, 162, 163, 164]) (hk : 1 < k) {p s e : Rat} {t : Int} {b : Beat} {acc : List Beat} (hp : Fit 900 p) (ht : Fit 90 (t : Rat)) (fb : Fit 900 b.1) (hs : Fit 1000 s) (he : Fit 1000 e) (hl : acc.length + (hits p [b] s e t).length ≤ lim) {m0 c5 c9 : SV} :
    ∃ d9, bwIn (runFn T k) [m0, .val (fr s), .val (fr e), .own (acc.map bt), .val (fr p), c5, .val (.int t), .val (fr b.1), .val (.str b.2), c9] st =
      .next [m0, .val (fr s), .val (fr e), .own ((acc ++ hits p [b] s e t).map bt), .val (fr p), c5, .val (.int t), .val (fr b.1), .val (.str b.2), d9] st := by
  have e6 := ltimes_ok (k := k) (st := st) (T := T) h.sub hk (hp.mono (by decide)) (ht.mono (by decide))
  rw [← fr_int] at e6
  have fpt := fit_mul hp ht
  have e8 := lsum_ok (k := k) (st := st) (T := T) h.sub hk (fpt.mono (by decide)) (fb.mono (by decide))
  have fh := fit_add fpt fb
  have e9 := lless_ok (k := k) (st := st) (T := T) h.sub (by omega) (fh.mono (by decide)) (hs.mono (by decide))
  have e10 := lless_ok (k := k) (st := st) (T := T) h.sub (by omega) (fh.mono (by decide)) (he.mono (by decide))
  rw [hits_one] at hl ⊢
  unfold bwIn
  generalize p * (t : Rat) = pt at *
  generalize pt + b.1 = w at *
  refine ⟨.val (fr w), ?_⟩
  cases hc1 : decide (w < s) with
  | true =>
    rw [hc1] at e9
    simp [e6, e8, e9]
  | false =>
    rw [hc1] at e9 hl
    cases hc2 : decide (w < e) with
    | false =>
      rw [hc2] at e10
      simp [e6, e8, e9, e10]
    | true =>
      rw [hc2] at e10 hl
      simp only [Bool.not_false, Bool.and_self, if_true, List.length_singleton] at hl
      have ka := kApp_ev (ρ := [m0, .val (fr s), .val (fr e), .own (acc.map bt), .val (fr p), c5, .val (.int t), .val (fr b.1), .val (.str b.2), .val (fr w)]) (st := st) (i := 3) (xs := acc.map bt) (p := PV.tup [fr w, .str b.2]) (by rw [List.length_map]; omega)
      simp [e6, e8, e9, e10, ka, bt]
def bwB (call : CallT) : SM := sSeq (sFor (wItems (eOp2S pIdxS (eVar 0) (eC (.int 1)))) (gTup [gName 7, gName 8]) (bwIn call)) (sSet 6 (fVal (eOp2 pAdd (eVar 6) (eC (.int 1)))))
theorem bwB_ok (h : Has T [161, 162, 163, 164]) (hk : 1 < k) {p s e : Rat} {t : Int} {bs acc : List Beat} (hp : Fit 900 p) (ht : Fit 90 (t : Rat)) (fb : ∀ b ∈ bs, Fit 900 b.1) (hs : Fit 1000 s) (he : Fit 1000 e) (hl : acc.length + (hits p bs s e t).length ≤ lim) {c5 c7 c8 c9 : SV} :
    ∃ d7 d8 d9, bwB (runFn T k) [.val (lf (p, bs)), .val (fr s), .val (fr e), .own (acc.map bt), .val (fr p), c5, .val (.int t), c7, c8, c9] st =
      .next [.val (lf (p, bs)), .val (fr s), .val (fr e), .own ((acc ++ hits p bs s e t).map bt), .val (fr p), c5, .val (.int (t + 1)), d7, d8, d9] st := by
  obtain ⟨ρ', e1, d7, d8, d9, rfl⟩ := forGo_pre (st := st) (g := gTup [gName 7, gName 8]) (body := bwIn (runFn T k)) bt bs
    (fun pr ρ => ∃ d7 d8 d9, ρ = [.val (lf (p, bs)), .val (fr s), .val (fr e), .own ((acc ++ hits p pr s e t).map bt), .val (fr p), c5, .val (.int t), d7, d8, d9])
    (by
      rintro pr b po _ hy ⟨d7, d8, d9, rfl⟩
      have hh := hits_append p pr [b] s e t
      have hlb : (hits p (pr ++ [b]) s e t).length ≤ (hits p bs s e t).length := by
        rw [hy, show pr ++ b :: po = (pr ++ [b]) ++ po from by simp, hits_append p (pr ++ [b]), List.length_append]
        omega
      obtain ⟨d9', e2⟩ := bwIn_ok (k := k) (st := st) (T := T) h hk (acc := acc ++ hits p pr s e t) hp ht (fb b (by rw [hy]; simp)) hs he (by rw [hh] at hlb; rw [List.length_append] at hlb ⊢; omega) (m0 := .val (lf (p, bs))) (c5 := c5) (c9 := d9)
      refine ⟨_, _, rfl, .inl e2, _, _, _, by rw [hh, List.append_assoc]⟩) (ρ := [.val (lf (p, bs)), .val (fr s), .val (fr e), .own (acc.map bt), .val (fr p), c5, .val (.int t), c7, c8, c9]) ⟨c7, c8, c9, by unfold hits; simp⟩
  refine ⟨d7, d8, d9, ?_⟩
  have ei : wItems (eOp2S pIdxS (eVar 0) (eC (.int 1))) [.val (lf (p, bs)), .val (fr s), .val (fr e), .own (acc.map bt), .val (fr p), c5, .val (.int t), c7, c8, c9] st = .ok (bs.map bt) st := rfl
  unfold bwB
  rw [sSeq_ev, sFor_ev, ei, bindS_ok, kFor_ev, e1, seq_next]
  rfl
theorem bw_loop (h : Has T [161, 162, 163, 164]) (hk : 1 < k) {p s e : Rat} {bs : List Beat} (hz : 0 < p) (hp : Fit 900 p) (fb : ∀ b ∈ bs, Fit 900 b.1) (hs : Fit 1000 s) (he : Fit 1000 e) {c5 : SV} :
    ∀ (N : Nat) (t : Int) (acc : List Beat) (n : Nat) (c7 c8 c9 : SV), N < n → ((e / p).ceil - t).toNat = N → -(2 ^ 62) ≤ t → t + N < 2 ^ 63 → acc.length + ((nums t N).flatMap (hits p bs s e)).length ≤ lim →
    ∃ c6 d7 d8 d9, whileGo (tVal (eFrz (fCall (runFn T k) 164 (aCons (eFrz (fCall (runFn T k) 163 (aCons (eVar 4) (aCons (eTup (aCons (eVar 6) (aCons (eC (.int 1)) (aNil)))) (aNil))))) (aCons (eVar 2) (aNil)))))) (bwB (runFn T k)) n [.val (lf (p, bs)), .val (fr s), .val (fr e), .own (acc.map bt), .val (fr p), c5, .val (.int t), c7, c8, c9] st =
      .next [.val (lf (p, bs)), .val (fr s), .val (fr e), .own ((acc ++ (nums t N).flatMap (hits p bs s e)).map bt), .val (fr p), c5, c6, d7, d8, d9] st
  | N, t, acc, 0, _, _, _, hn, _, _, _, _ => absurd hn (Nat.not_lt_zero _)
  | N, t, acc, n + 1, c7, c8, c9, hn, hN, h1, h2, hl => by
    have ft : Fit 90 (t : Rat) := fit_int (by omega) (by decide)
    have e6 := ltimes_ok (k := k) (st := st) (T := T) h.sub hk (hp.mono (by decide)) (ft.mono (by decide))
    rw [← fr_int] at e6
    have fpt := fit_mul hp ft
    have e9 := lless_ok (k := k) (st := st) (T := T) h.sub (by omega) (fpt.mono (by decide)) (he.mono (by decide))
    have ec : tVal (eFrz (fCall (runFn T k) 164 (aCons (eFrz (fCall (runFn T k) 163 (aCons (eVar 4) (aCons (eTup (aCons (eVar 6) (aCons (eC (.int 1)) (aNil)))) (aNil))))) (aCons (eVar 2) (aNil))))) [.val (lf (p, bs)), .val (fr s), .val (fr e), .own (acc.map bt), .val (fr p), c5, .val (.int t), c7, c8, c9] st = .ok (decide (p * (t : Rat) < e)) st := by
      simp [e6, e9]
    have hlt : p * (t : Rat) < e ↔ t < (e / p).ceil := by rw [Rat.lt_ceil_iff, Rat.lt_div_iff' hz]
    rw [whileGo_succ, ec, bindS_ok]
    cases N with
    | zero =>
      have : ¬ p * (t : Rat) < e := by rw [hlt]; omega
      rw [decide_eq_false this, if_neg Bool.false_ne_true]
      refine ⟨.val (.int t), c7, c8, c9, ?_⟩
      have : nums t 0 = [] := rfl
      rw [this, List.flatMap_nil, List.append_nil]
    | succ N =>
      have : p * (t : Rat) < e := by rw [hlt]; omega
      have en : nums t (N + 1) = t :: nums (t + 1) N := by
        unfold nums
        rw [List.range_succ_eq_map, List.map_cons, List.map_map]
        congr 1
        · simp
        · apply List.map_congr_left
          intro a _
          simp only [Function.comp_apply]
          omega
      rw [en, List.flatMap_cons, List.length_append] at hl
      rw [decide_eq_true this, if_pos rfl]
      obtain ⟨d7, d8, d9, e2⟩ := bwB_ok (k := k) (st := st) (T := T) h hk (acc := acc) (bs := bs) hp ft fb hs he (by omega) (c5 := c5) (c7 := c7) (c8 := c8) (c9 := c9)
      rw [e2, loop_next]
      obtain ⟨c6, f7, f8, f9, e3⟩ := bw_loop h hk hz hp fb hs he (c5 := c5) N (t + 1) (acc ++ hits p bs s e t) n d7 d8 d9 (by omega) (by omega) (by omega) (by omega) (by rw [List.length_append]; omega)
      refine ⟨c6, f7, f8, f9, ?_⟩
      rw [e3, en, List.flatMap_cons, List.append_assoc]
theorem lf_at0 (r : Rat × List Beat) : pIdxS (lf r) (.int 0) st = some (fr r.1) := rfl
theorem lf_at1 (r : Rat × List Beat) : pIdxS (lf r) (.int 1) st = some (.tup (r.2.map bt)) := rfl
theorem lbetween_ok {id : Nat} (hT : T id = some fn186) (h : Has T [161, 162, 163, 164]) (hk : 2 < k) {p s e : Rat} {bs : List Beat} (hz : 0 < p) (hp : Fit 900 p) (fb : ∀ b ∈ bs, Fit 900 b.1) (hs : Fit 900 s) (he : Fit 900 e)
    (h1 : -(2 ^ 62) ≤ (s / p).floor ∧ (s / p).floor < 2 ^ 62) (h2 : -(2 ^ 62) ≤ (e / p).ceil ∧ (e / p).ceil < 2 ^ 62) (hl : (betw p bs s e).length ≤ lim) :
    runFn T k id [lf (p, bs), fr s, fr e] st = .ok (.own ((betw p bs s e).map bt)) st := by
  rw [run_at hT (by omega)]
  have fi := fit_inv hp hz
  have e5 := ltimes_ok (k := k - 1) (st := st) (T := T) h.sub (by omega) (hs.mono (by decide)) (fi.mono (by decide))
  have fq : Fit 1800 (s / p) := fit_mul hs fi
  rw [← fr_inv hz, ← Rat.div_def] at e5
  have pd : pDiv (.int (s / p).num) (.int ((s / p).den : Int)) = some (.int (s / p).floor) := by rw [pDiv_int (den_pos' _) (fq.sd (by decide)), Rat.floor_def]
  have e0 : pIdxS (lf (p, bs)) (.int 0) st = some (fr p) := rfl
  obtain ⟨c6, d7, d8, d9, e6⟩ := bw_loop (k := k - 1) (st := st) (T := T) h (by omega) hz hp fb (hs.mono (by decide)) (he.mono (by decide)) (c5 := .val (fr (s / p))) ((e / p).ceil - (s / p).floor).toNat (s / p).floor [] fuel .un .un .un
    (Nat.lt_of_lt_of_le (show _ < 2 ^ 64 from by omega) (Nat.le_trans (by decide +kernel) fuel_ge)) rfl h1.1 (by omega) (by rw [List.length_nil, Nat.zero_add]; exact hl)
  unfold bwB bwIn at e6
  unfold b186
  show BR.finish (sSeq _ _ [.val (lf (p, bs)), .val (fr s), .val (fr e), .un, .un, .un, .un, .un, .un, .un] st) = _
  rw [sSeq_ev, show sSet 3 (fLst (aNil)) [.val (lf (p, bs)), .val (fr s), .val (fr e), .un, .un, .un, .un, .un, .un, .un] st = .next [.val (lf (p, bs)), .val (fr s), .val (fr e), .own [], .un, .un, .un, .un, .un, .un] st from rfl, seq_next]
  rw [sSeq_ev, show sSet 4 (fVal (eOp2S pIdxS (eVar 0) (eC (.int 0)))) [.val (lf (p, bs)), .val (fr s), .val (fr e), .own [], .un, .un, .un, .un, .un, .un] st = .next [.val (lf (p, bs)), .val (fr s), .val (fr e), .own [], .val (fr p), .un, .un, .un, .un, .un] st from rfl, seq_next]
  rw [sSeq_ev, show sSet 5 (fVal (eFrz (fCall (runFn T (k - 1)) 163 (aCons (eVar 1) (aCons (eTup (aCons (eOp2S pIdxS (eVar 4) (eC (.int 1))) (aCons (eOp2S pIdxS (eVar 4) (eC (.int 0))) (aNil)))) (aNil)))))) [.val (lf (p, bs)), .val (fr s), .val (fr e), .own [], .val (fr p), .un, .un, .un, .un, .un] st = .next [.val (lf (p, bs)), .val (fr s), .val (fr e), .own [], .val (fr p), .val (fr (s / p)), .un, .un, .un, .un] st from by simp [e5], seq_next]
  rw [sSeq_ev, show sSet 6 (fVal (eOp2 pDiv (eOp2S pIdxS (eVar 5) (eC (.int 0))) (eOp2S pIdxS (eVar 5) (eC (.int 1))))) [.val (lf (p, bs)), .val (fr s), .val (fr e), .own [], .val (fr p), .val (fr (s / p)), .un, .un, .un, .un] st = .next [.val (lf (p, bs)), .val (fr s), .val (fr e), .own [], .val (fr p), .val (fr (s / p)), .val (.int (s / p).floor), .un, .un, .un] st from by simp [pd], seq_next]
  rw [sSeq_ev]
  unfold sWhile
  rw [show ([] : List PV) = ([] : List Beat).map bt from rfl, e6, seq_next, List.nil_append]
  rfl
theorem lsound_ok {id : Nat} (hT : T id = some fn187) (h : Has T [161, 162, 163]) (hk : 2 < k) {p t : Rat} {bs : List Beat} (hz : 0 < p) (hp : Fit 500 p) (ht : Fit 500 t) (ha : Apart bs) (hl : bs.length ≤ lim) :
    runFn T k id [lf (p, bs), fr t] st = .ok (.val (.str (snd p bs t))) st := by
  rw [run_at hT (by omega)]
  have fi := fit_inv hp hz
  have e5 := ltimes_ok (k := k - 1) (st := st) (T := T) h.sub (by omega) (ht.mono (by decide)) (fi.mono (by decide))
  have fq : Fit 1000 (t / p) := fit_mul ht fi
  rw [← fr_inv hz, ← Rat.div_def] at e5
  have pd : pDiv (.int (t / p).num) (.int ((t / p).den : Int)) = some (.int (t / p).floor) := by rw [pDiv_int (den_pos' _) (fq.sd (by decide)), Rat.floor_def]
  have ff : Fit 1000 ((t / p).floor : Rat) := fit_int (fit_floor fq) (by decide)
  have e6 := ltimes_ok (k := k - 1) (st := st) (T := T) h.sub (by omega) (hp.mono (by decide)) (ff.mono (by decide))
  rw [← fr_int] at e6
  have fb := fit_mul hp ff
  have fn : Fit 1500 (-(p * ((t / p).floor : Rat))) := ⟨by rw [Rat.neg_num, Int.natAbs_neg]; exact fb.1, fb.2⟩
  have e7 := lsum_ok (k := k - 1) (st := st) (T := T) h.sub (by omega) (ht.mono (by decide)) (fn.mono (by decide))
  have er : t + -(p * ((t / p).floor : Rat)) = rbey t p := by unfold rbey; rw [Rat.sub_eq_add_neg]
  rw [er] at e7
  generalize hB : p * ((t / p).floor : Rat) = B at e6 e7 fn fb er
  have zn : PV.tup [.int (0 - B.num), .int (B.den : Int)] = fr (-B) := by rw [Int.zero_sub]; exact fr_neg0 B
  unfold b187 snd
  show BR.finish (sSeq _ _ [.val (lf (p, bs)), .val (fr t), .un, .un, .un] st) = _
  rw [sSeq_ev, show sSet 2 (fVal (eOp2S pIdxS (eVar 0) (eC (.int 0)))) [.val (lf (p, bs)), .val (fr t), .un, .un, .un] st = .next [.val (lf (p, bs)), .val (fr t), .val (fr p), .un, .un] st from rfl, seq_next]
  rw [sSeq_ev, show sSet 3 (fVal (eFrz (fCall (runFn T (k - 1)) 163 (aCons (eVar 1) (aCons (eTup (aCons (eOp2S pIdxS (eVar 2) (eC (.int 1))) (aCons (eOp2S pIdxS (eVar 2) (eC (.int 0))) (aNil)))) (aNil)))))) [.val (lf (p, bs)), .val (fr t), .val (fr p), .un, .un] st = .next [.val (lf (p, bs)), .val (fr t), .val (fr p), .val (fr (t / p)), .un] st from by simp [e5], seq_next]
  rw [sSeq_ev, show sSet 4 (fVal (eFrz (fCall (runFn T (k - 1)) 163 (aCons (eVar 2) (aCons (eTup (aCons (eOp2 pDiv (eOp2S pIdxS (eVar 3) (eC (.int 0))) (eOp2S pIdxS (eVar 3) (eC (.int 1)))) (aCons (eC (.int 1)) (aNil)))) (aNil)))))) [.val (lf (p, bs)), .val (fr t), .val (fr p), .val (fr (t / p)), .un] st = .next [.val (lf (p, bs)), .val (fr t), .val (fr p), .val (fr (t / p)), .val (fr B)] st from by simp [pd, e6], seq_next]
  have d1 : eOpN nDict (aCons (eFrz (fList (eOp2S pIdxS (eVar 0) (eC (.int 1))))) (aNil)) [.val (lf (p, bs)), .val (fr t), .val (fr p), .val (fr (t / p)), .val (fr B)] st = .ok (.dct (bs.map fun b => fr b.1) (bs.map fun b => .str b.2)) st := by
    show R.ofOpt (nDict [.lst (bs.map bt)]) st = _
    rw [nDict_bt2 ha]
    rfl
  have d2 : eFrz (fCall (runFn T (k - 1)) 162 (aCons (eVar 1) (aCons (eTup (aCons (eOp2 pSub (eC (.int 0)) (eOp2S pIdxS (eVar 4) (eC (.int 0)))) (aCons (eOp2S pIdxS (eVar 4) (eC (.int 1))) (aNil)))) (aNil)))) [.val (lf (p, bs)), .val (fr t), .val (fr p), .val (fr (t / p)), .val (fr B)] st = .ok (fr (rbey t p)) st := by
    simp [-Int.zero_sub, zn, e7]
  have d3 := dget_ok d1 d2
  rw [sRet_ev, fVal_ev, d3]
  rfl
end
end BP
set_option Elab.async false
set_option linter.all false
set_option maxRecDepth 100000
set_option maxHeartbeats 4000000
/-! M5: _law_rhythm: a drawn period and beats. -/
namespace BP
open BR PySem MX
def six : List (List Nat) := [[97], [98], [97, 98], [99], [97], [97, 100]]
def kb (P : Nat) (x : Nat × List Nat) : Beat := (Rat.divInt (x.1 : Int) (P : Int), x.2)
/-- a drawn rhythm -/
def Drawn (p : Rat) (bs : List Beat) : Prop := ∃ P N : Nat, 1 ≤ P ∧ P ≤ 4 ∧ 1 ≤ N ∧ N ≤ 8 ∧ p = Rat.divInt (N : Int) (P : Int) ∧ ∃ ks : List (Nat × List Nat), ks.Pairwise (fun a b => a.1 < b.1) ∧ (∀ x ∈ ks, x.1 < N ∧ x.2 ∈ six) ∧ bs = ks.map (kb P)
section
variable {T : Nat → Option Fn} {k : Nat}
theorem rng1_nat {n : Nat} (hn : n < 2 ^ 62) : rng1 (.int (n : Int)) = some ((List.range n).map fun i : Nat => PV.int (i : Int)) := by
  rw [rng1_nums (by omega)]
  unfold nums
  rw [List.map_map, Int.toNat_natCast]
  refine congrArg some (List.map_congr_left fun a _ => ?_)
  simp only [Function.comp_apply, PV.int.injEq]
  omega
def sixPV : PV := .lst [.str [97], .str [98], .str [97, 98], .str [99], .str [97], .str [97, 100]]
theorem six_at {v : Int} (h0 : 0 ≤ v) (h1 : v < 6) : ∃ s, s ∈ six ∧ pIdx sixPV (.int v) = some (.str s) := by
  have : v = 0 ∨ v = 1 ∨ v = 2 ∨ v = 3 ∨ v = 4 ∨ v = 5 := by omega
  rcases this with e | e | e | e | e | e <;> subst e
  · exact ⟨[97], by decide, rfl⟩
  · exact ⟨[98], by decide, rfl⟩
  · exact ⟨[97, 98], by decide, rfl⟩
  · exact ⟨[99], by decide, rfl⟩
  · exact ⟨[97], by decide, rfl⟩
  · exact ⟨[97, 100], by decide, rfl⟩
theorem ltaken_ok {id : Nat} (hT : T id = some fn183) (hk : 0 < k) {ns : List Int} {o : SO} {rest : Store} {m : Int} (h : RowOk ns o) (hm : 0 < m := by decide) (hm2 : m < 2 ^ 62 := by decide) :
    ∃ v o', runFn T k id [.ref 0, .int m] (o :: rest) = .ok (.val (.int v)) (o' :: rest) ∧ 0 ≤ v ∧ v < m ∧ RowOk ns o' := by
  obtain ⟨j, rfl⟩ : ∃ j, k = j + 1 := ⟨k - 1, by omega⟩
  exact taken_ok (hT.trans rfl) hm hm2 h
def rhB (call : CallT) : SM := sIf (tVal (eOp2 pEq (eFrz (fCall call 183 (aCons (eVar 0) (aCons (eC (.int 2)) (aNil))))) (eC (.int 0)))) (sSeq (sSet 5 (fVal (eOp2S pIdxS (eFrz (fLst (aCons (eC (.str [97])) (aCons (eC (.str [98])) (aCons (eC (.str [97, 98])) (aCons (eC (.str [99])) (aCons (eC (.str [97])) (aCons (eC (.str [97, 100])) (aNil))))))))) (eFrz (fCall call 183 (aCons (eVar 0) (aCons (eC (.int 6)) (aNil)))))))) (sApp 3 (eTup (aCons (eFrz (fCall call 161 (aCons (eVar 4) (aCons (eVar 1) (aNil))))) (aCons (eVar 5) (aNil)))))) (sNil)
theorem rhB_ok (hT : T 183 = some fn183) (h : Has T [161]) (hk : 0 < k) {ns : List Int} {o : SO} {rest : Store} (ho : RowOk ns o) {P N i : Nat} (P0 : 0 < P) (P1 : P ≤ 4) {ks : List (Nat × List Nat)} (hl : ks.length < lim) {c5 : SV} :
    ∃ ks' o' d5, rhB (runFn T k) [.val (.ref 0), .val (.int (P : Int)), .val (.int (N : Int)), .own (ks.map fun x => bt (kb P x)), .val (.int (i : Int)), c5] (o :: rest) =
      .next [.val (.ref 0), .val (.int (P : Int)), .val (.int (N : Int)), .own (ks'.map fun x => bt (kb P x)), .val (.int (i : Int)), d5] (o' :: rest) ∧ RowOk ns o' ∧ (ks' = ks ∨ ∃ s, s ∈ six ∧ ks' = ks ++ [(i, s)]) := by
  obtain ⟨v, o1, e1, v0, v1, h1⟩ := ltaken_ok (T := T) (k := k) hT hk (rest := rest) (m := 2) ho
  by_cases hv : v = 0
  · subst hv
    obtain ⟨w, o2, e2, w0, w1, h2⟩ := ltaken_ok (T := T) (k := k) hT hk (rest := rest) (m := 6) h1
    obtain ⟨s, hs, e3⟩ := six_at w0 w1
    have e4 := lfrac_ok (k := k) (st := o2 :: rest) (T := T) h hk (n := (i : Int)) (p := (P : Int)) (by omega) (by rw [Int.natAbs_natCast]; exact Nat.lt_of_lt_of_le (show P < 2 ^ 3 from by omega) (by decide +kernel))
    refine ⟨ks ++ [(i, s)], o2, .val (.str s), ?_, h2, .inr ⟨s, hs, rfl⟩⟩
    have e5 : eOp2S pIdxS (eFrz (fLst (aCons (eC (.str [97])) (aCons (eC (.str [98])) (aCons (eC (.str [97, 98])) (aCons (eC (.str [99])) (aCons (eC (.str [97])) (aCons (eC (.str [97, 100])) (aNil))))))))) (eFrz (fCall (runFn T k) 183 (aCons (eVar 0) (aCons (eC (.int 6)) (aNil))))) [.val (.ref 0), .val (.int (P : Int)), .val (.int (N : Int)), .own (ks.map fun x => bt (kb P x)), .val (.int (i : Int)), c5] (o1 :: rest) = .ok (.str s) (o2 :: rest) := by
      have e6 : pIdxS sixPV (.int w) (o2 :: rest) = some (.str s) := e3
      unfold sixPV at e6
      simp [-pIdxS_lst, e2, e6]
    have ka := kApp_ev (ρ := [.val (.ref 0), .val (.int (P : Int)), .val (.int (N : Int)), .own (ks.map fun x => bt (kb P x)), .val (.int (i : Int)), .val (.str s)]) (st := o2 :: rest) (i := 3) (xs := ks.map fun x => bt (kb P x)) (p := PV.tup [fr (Rat.divInt (i : Int) (P : Int)), .str s]) (by rw [List.length_map]; exact hl)
    unfold rhB
    simp [-Rat.divInt_ofNat, -eOp2S_ev, e1, e5, e4, ka]
    rfl
  · refine ⟨ks, o1, c5, ?_, h1, .inl rfl⟩
    unfold rhB
    simp [e1, hv]
theorem lrhythm_ok (h : Has T [161, 183, 184]) (hk : 1 < k) {ns : List Int} {o : SO} {rest : Store} (ho : RowOk ns o) :
    ∃ p bs o', runFn T k 184 [.ref 0] (o :: rest) = .ok (.own [fr p, .tup (bs.map bt)]) (o' :: rest) ∧ RowOk ns o' ∧ Drawn p bs := by
  have hlim : lim = 1000000 := rfl
  have hT : T 183 = some fn183 := h.at 183
  rw [run_at (h.at 184) (by omega)]
  obtain ⟨v, o1, e1, v0, v1, h1⟩ := ltaken_ok (T := T) (k := k - 1) hT (by omega) (rest := rest) (m := 4) ho
  obtain ⟨w, o2, e2, w0, w1, h2⟩ := ltaken_ok (T := T) (k := k - 1) hT (by omega) (rest := rest) (m := 8) h1
  obtain ⟨P, eP⟩ : ∃ P : Nat, (P : Int) = 1 + v := ⟨(1 + v).toNat, by omega⟩
  obtain ⟨N, eN⟩ : ∃ N : Nat, (N : Int) = 1 + w := ⟨(1 + w).toNat, by omega⟩
  obtain ⟨ρ', st', e3, ks, o3, c4, c5, rfl, rfl, h3, hp, hx, hl⟩ := forGo_st (g := gName 4) (body := rhB (runFn T (k - 1))) (fun i : Nat => PV.int (i : Int)) (List.range N)
    (fun pre ρ st => ∃ ks o' c4 c5, st = o' :: rest ∧ ρ = [.val (.ref 0), .val (.int (P : Int)), .val (.int (N : Int)), .own (ks.map fun x => bt (kb P x)), c4, c5] ∧ RowOk ns o' ∧ ks.Pairwise (fun a b => a.1 < b.1) ∧ (∀ x ∈ ks, x.1 ∈ pre ∧ x.2 ∈ six) ∧ ks.length ≤ pre.length)
    (by
      rintro pre i post _ _ hy ⟨ks, o', c4, c5, rfl, rfl, ho', hp, hx, hl⟩
      have lN := congrArg List.length hy
      rw [List.length_range, List.length_append, List.length_cons] at lN
      obtain ⟨ks', o3, d5, e, h3, hc⟩ := rhB_ok (T := T) (k := k - 1) hT h.sub (by omega) (rest := rest) ho' (P := P) (N := N) (i := i) (by omega) (by omega) (ks := ks) (by omega) (c5 := c5)
      refine ⟨_, _, _, _, rfl, .inl e, ks', o3, _, _, rfl, rfl, h3, ?_, ?_, ?_⟩
      · rcases hc with hc | ⟨s, hs, hc⟩
        · rw [hc]; exact hp
        · rw [hc]
          refine List.pairwise_append.mpr ⟨hp, List.pairwise_singleton _ _, fun a ha b hb => ?_⟩
          rw [List.mem_singleton.mp hb]
          have pr := List.pairwise_lt_range (n := N)
          rw [hy] at pr
          exact (List.pairwise_append.mp pr).2.2 _ (hx a ha).1 _ List.mem_cons_self
      · intro x hx'
        rcases hc with hc | ⟨s, hs, hc⟩
        · rw [hc] at hx'
          exact ⟨List.mem_append_left _ (hx x hx').1, (hx x hx').2⟩
        · rw [hc] at hx'
          rcases List.mem_append.mp hx' with q | q
          · exact ⟨List.mem_append_left _ (hx x q).1, (hx x q).2⟩
          · rw [List.mem_singleton.mp q]
            exact ⟨List.mem_append_right _ List.mem_cons_self, hs⟩
      · rw [List.length_append, List.length_singleton]
        rcases hc with hc | ⟨s, hs, hc⟩
        · rw [hc]; omega
        · rw [hc, List.length_append, List.length_singleton]; omega) (ρ := [.val (.ref 0), .val (.int (P : Int)), .val (.int (N : Int)), .own [], .un, .un]) (st := o2 :: rest)
    ⟨[], o2, .un, .un, rfl, rfl, h2, .nil, fun x hx => (nomatch hx), Nat.le_refl _⟩
  have e4 := lfrac_ok (k := k - 1) (st := o3 :: rest) (T := T) h.sub (by omega) (n := (N : Int)) (p := (P : Int)) (by omega) (by rw [Int.natAbs_natCast]; exact Nat.lt_of_lt_of_le (show P < 2 ^ 3 from by omega) (by decide +kernel))
  refine ⟨Rat.divInt N P, ks.map (kb P), o3, ?_, h3, P, N, by omega, by omega, by omega, by omega, rfl, ks, hp, fun x hx' => ⟨List.mem_range.mp (hx x hx').1, (hx x hx').2⟩, rfl⟩
  unfold rhB at e3
  unfold b184
  show BR.finish (sSeq _ _ [.val (.ref 0), .un, .un, .un, .un, .un] (o :: rest)) = _
  rw [sSeq_ev, show sSet 1 (fVal (eOp2 pAdd (eC (.int 1)) (eFrz (fCall (runFn T (k - 1)) 183 (aCons (eVar 0) (aCons (eC (.int 4)) (aNil))))))) [.val (.ref 0), .un, .un, .un, .un, .un] (o :: rest) = .next [.val (.ref 0), .val (.int (P : Int)), .un, .un, .un, .un] (o1 :: rest) from by simp [e1, eP], seq_next]
  rw [sSeq_ev, show sSet 2 (fVal (eOp2 pAdd (eC (.int 1)) (eFrz (fCall (runFn T (k - 1)) 183 (aCons (eVar 0) (aCons (eC (.int 8)) (aNil))))))) [.val (.ref 0), .val (.int (P : Int)), .un, .un, .un, .un] (o1 :: rest) = .next [.val (.ref 0), .val (.int (P : Int)), .val (.int (N : Int)), .un, .un, .un] (o2 :: rest) from by simp [e2, eN], seq_next]
  rw [sSeq_ev, show sSet 3 (fLst (aNil)) [.val (.ref 0), .val (.int (P : Int)), .val (.int (N : Int)), .un, .un, .un] (o2 :: rest) = .next [.val (.ref 0), .val (.int (P : Int)), .val (.int (N : Int)), .own [], .un, .un] (o2 :: rest) from rfl, seq_next]
  have er : wRng1 (eVar 2) [.val (.ref 0), .val (.int (P : Int)), .val (.int (N : Int)), .own [], .un, .un] (o2 :: rest) = .ok ((List.range N).map fun i : Nat => PV.int (i : Int)) (o2 :: rest) := by
    rw [wRng1_ev, show eVar 2 [.val (.ref 0), .val (.int (P : Int)), .val (.int (N : Int)), .own [], .un, .un] (o2 :: rest) = .ok (.int (N : Int)) (o2 :: rest) from rfl, bind_ok, kLs_ev, rng1_nat (by omega), ofOpt_some]
  rw [sSeq_ev, sFor_ev, er, bindS_ok, kFor_ev, e3, seq_next]
  have et : eTupOwn 3 [.val (.ref 0), .val (.int (P : Int)), .val (.int (N : Int)), .own (ks.map fun x => bt (kb P x)), c4, c5] (o3 :: rest) = .ok (.tup ((ks.map (kb P)).map bt)) (o3 :: rest) := by
    rw [List.map_map]
    rfl
  simp [-Rat.divInt_ofNat, e4, et]
end
end BP
set_option Elab.async false
set_option linter.all false
set_option maxRecDepth 100000
set_option maxHeartbeats 4000000
/-! Q3: what is true of a drawn rhythm. -/
namespace BP
open BR PySem
theorem divInt_lt {i j : Int} {P : Nat} (hP : 0 < P) : Rat.divInt i (P : Int) < Rat.divInt j (P : Int) ↔ i < j := by
  have h0 := nat_pos hP
  have e : ∀ x : Int, Rat.divInt x (P : Int) * (P : Rat) = (x : Rat) := fun x => by
    rw [Rat.divInt_eq_div]
    exact div_nat hP
  rw [← Rat.mul_lt_mul_right h0, e, e, Rat.intCast_lt_intCast]
theorem divInt_zero' {P : Nat} : Rat.divInt 0 (P : Int) = 0 := by simp
theorem divInt_pos {i : Int} {P : Nat} (hP : 0 < P) : 0 < Rat.divInt i (P : Int) ↔ 0 < i := by
  have := divInt_lt (i := 0) (j := i) hP
  rwa [divInt_zero'] at this
theorem divInt_nonneg {i : Int} {P : Nat} (hP : 0 < P) (hi : 0 ≤ i) : 0 ≤ Rat.divInt i (P : Int) := by
  have := mt (divInt_lt (i := i) (j := 0) hP).mp (by omega)
  rw [divInt_zero'] at this
  exact Rat.not_lt.mp this
theorem divInt_den {i : Int} {P : Nat} (hP : 0 < P) : (Rat.divInt i (P : Int)).den ∣ P := by
  rw [Rat.den_divInt, if_neg (by omega), Int.natAbs_natCast]
  exact Nat.div_dvd_of_dvd (Nat.gcd_dvd_left _ _)
theorem six_ok {s : List Nat} (h : s ∈ six) : okLet s = true ∧ s ≠ [] ∧ Txt s ∧ s.length ≤ 2 := by
  unfold six at h
  simp only [List.mem_cons, List.not_mem_nil, or_false] at h
  rcases h with e | e | e | e | e | e <;> subst e <;> exact ⟨by decide, by decide, rfl, by decide⟩
theorem asc_len : ∀ (l : List Nat) (a n : Nat), l.Pairwise (fun a b => a < b) → (∀ x ∈ l, a ≤ x) → (∀ x ∈ l, x < n) → l.length ≤ n - a
  | [], _, _, _, _, _ => Nat.zero_le _
  | x :: xs, a, n, hp, h1, h2 => by
    obtain ⟨q1, q2⟩ := List.pairwise_cons.mp hp
    have := asc_len xs (x + 1) n q2 (fun y hy => q1 y hy) fun y hy => h2 y (List.mem_cons_of_mem _ hy)
    have := h1 x List.mem_cons_self
    have := h2 x List.mem_cons_self
    rw [List.length_cons]
    omega
theorem okLet_len {s : List Nat} (h : okLet s = true) : s.length ≤ 4 := by
  obtain ⟨_, h2, h3⟩ := (okLet_iff s).mp h
  have := asc_len s 97 101 h3 (fun x hx => by have := h2 x hx; simp only [List.mem_cons, List.not_mem_nil, or_false] at this; omega) (fun x hx => by have := h2 x hx; simp only [List.mem_cons, List.not_mem_nil, or_false] at this; omega)
  omega
/-- what the laws need of a period and beats -/
structure Tame (n : Nat) (p : Rat) (bs : List Beat) : Prop where
  pos : 0 < p
  asc : Asc1 bs
  inn : ∀ b ∈ bs, 0 ≤ b.1 ∧ b.1 < p ∧ okLet b.2 = true
  fp : Fit n p
  fb : ∀ b ∈ bs, Fit n b.1
  len : bs.length ≤ 1000
theorem okLet_ne {s : List Nat} (h : okLet s = true) : s ≠ [] := ((okLet_iff s).mp h).1
section
variable {n : Nat} {p : Rat} {bs : List Beat}
theorem Tame.mach (h : Tame n p bs) : Mach p bs := ⟨h.pos, h.asc, fun b hb => ⟨(h.inn b hb).1, (h.inn b hb).2.1, okLet_ne (h.inn b hb).2.2⟩⟩
theorem Tame.txt (h : Tame n p bs) : ∀ b ∈ bs, Txt b.2 := fun b hb => okLet_txt (h.inn b hb).2.2
theorem Tame.ok (h : Tame n p bs) : okBeats bs p = true := by
  unfold okBeats
  rw [List.all_eq_true.mpr fun b hb => ?_, zip_all (fun a b q => decide_eq_true q) h.asc, List.all_eq_true.mpr fun b hb => decide_eq_true (h.inn b hb).2.1]
  · rfl
  · unfold okBeat
    rw [decide_eq_true (h.inn b hb).1, (h.inn b hb).2.2]
    rfl
theorem Tame.bok (h : Tame n p bs) {m : Nat} (hm : n ≤ m) : BOk m bs := ⟨Nat.le_trans h.len (by decide), fun b hb => ⟨(h.fb b hb).mono hm, h.txt b hb, Nat.le_trans (okLet_len (h.inn b hb).2.2) (by decide)⟩⟩
theorem Tame.apart (h : Tame n p bs) : Apart bs := Pairwise_apart h.asc
theorem Tame.mono (h : Tame n p bs) {m : Nat} (hm : n ≤ m) : Tame m p bs := ⟨h.pos, h.asc, h.inn, h.fp.mono hm, fun b hb => (h.fb b hb).mono hm, h.len⟩
theorem Tame.nz (h : Tame n p bs) : p ≠ 0 := fun e => by have := h.pos; rw [e] at this; exact Rat.lt_irrefl this
theorem Tame.least (h : Tame n p bs) : Tame (n + 10) (leastForm p bs).1 (leastForm p bs).2 := by
  by_cases hn : bs = []
  · subst hn
    rw [leastForm_nil]
    exact ⟨one_pos, .nil, fun b hb => (nomatch hb), ⟨Nat.one_lt_two_pow (by omega), Nat.one_lt_two_pow (by omega)⟩, fun b hb => (nomatch hb), Nat.zero_le _⟩
  · obtain ⟨m, m0, m1, _, _, e⟩ := leastForm_some h.mach hn
    have hl := h.len
    rw [e]
    have q := blk_mach h.mach (div_pos h.pos m0)
    have fm : Fit 10 (m : Rat) := fit_nat (by omega) (by decide)
    have mem : ∀ b ∈ blk (p / (m : Rat)) bs, b ∈ bs := fun b hb => (List.mem_filter.mp hb).1
    exact ⟨q.pos, q.asc, fun b hb => ⟨(q.inn b hb).1, (q.inn b hb).2.1, (h.inn b (mem b hb)).2.2⟩, fit_over h.fp fm (fun e => by have := nat_pos m0; rw [e] at this; exact Rat.lt_irrefl this), fun b hb => (h.fb b (mem b hb)).mono (by omega), Nat.le_trans (List.length_filter_le _ _) h.len⟩
theorem Tame.lk (h : Tame n p bs) : Least (leastForm p bs).1 (leastForm p bs).2 := (leastForm_ok h.mach).1
end
theorem Drawn.tame {p : Rat} {bs : List Beat} (h : Drawn p bs) : Tame 10 p bs ∧ bs.length ≤ 8 ∧ 1 ≤ p * 4 := by
  obtain ⟨P, N, P0, P1, N0, N1, ep, ks, hp, hx, eb⟩ := h
  subst ep eb
  have l8 : ks.length ≤ 8 := by
    have hn : (ks.map (·.1)).Pairwise (fun a b => a < b) := List.pairwise_map.mpr hp
    have := asc_len (ks.map (·.1)) 0 N hn (fun x _ => Nat.zero_le _) (fun x hx' => by
      obtain ⟨y, hy, rfl⟩ := List.mem_map.mp hx'
      exact (hx y hy).1)
    rw [List.length_map] at this
    omega
  have mem : ∀ b ∈ ks.map (kb P), ∃ i s, i < N ∧ s ∈ six ∧ b = (Rat.divInt ((i : Nat) : Int) (P : Int), s) := fun b hb => by
    obtain ⟨y, hy, rfl⟩ := List.mem_map.mp hb
    exact ⟨y.1, y.2, (hx y hy).1, (hx y hy).2, rfl⟩
  have asc : Asc1 (ks.map (kb P)) := List.pairwise_map.mpr (hp.imp fun {a b} l => (divInt_lt (by omega)).mpr (by omega))
  have fit : ∀ i : Nat, i ≤ 8 → Fit 10 (Rat.divInt (i : Int) (P : Int)) := fun i hi => fit_div (by rw [Int.natAbs_natCast]; omega) (by rw [Int.natAbs_natCast]; omega) (by omega)
  refine ⟨⟨(divInt_pos (by omega)).mpr (by omega), asc, fun b hb => ?_, fit N (by omega), fun b hb => ?_, by rw [List.length_map]; omega⟩, by rw [List.length_map]; exact l8, ?_⟩
  · obtain ⟨i, s, hi, hs, rfl⟩ := mem b hb
    exact ⟨divInt_nonneg (by omega) (by omega), (divInt_lt (by omega)).mpr (by omega), (six_ok hs).1⟩
  · obtain ⟨i, s, hi, hs, rfl⟩ := mem b hb
    exact fit i (by omega)
  · have e : Rat.divInt (N : Int) (P : Int) * (P : Rat) = (N : Rat) := by
      rw [Rat.divInt_eq_div]
      exact div_nat (by omega)
    have h1 := nat_ge1 (m := N) (by omega)
    have h4 : (P : Rat) ≤ ((4 : Nat) : Rat) := Rat.natCast_le_natCast.mpr P1
    have hpos := (divInt_pos (i := (N : Int)) (P := P) (by omega)).mpr (by omega)
    have := Rat.mul_le_mul_of_nonneg_left h4 (Rat.le_of_lt hpos)
    have e4 : ((4 : Nat) : Rat) = 4 := rfl
    rw [e, e4] at this
    exact Rat.le_trans h1 this
end BP
set_option Elab.async false
set_option linter.all false
set_option maxRecDepth 100000
set_option maxHeartbeats 4000000
/-! Q4: what a law asks of rhythms: made, period, beats, len, ==, !=, sound, between. -/
namespace BP
open BR PySem
section
variable {T : Nat → Option Fn} {k : Nat} {st : Store} {n : Nat} {p q : Rat} {as bs : List Beat}
def idsMake : List Nat := [64, 65, 67, 68, 70, 72, 73, 105, 106, 107, 108, 109, 110, 111]
/-- the least form as an instance -/
def rl (p : Rat) (bs : List Beat) : PV := rhy (leastForm p bs).1 (leastForm p bs).2
theorem make111 (h : Has T idsMake) (hk : 5 < k) (t : Tame n p bs) (hn : n ≤ 3900) : runFn T k 111 [fr p, .tup (bs.map bt)] st = .ok (rhyI (leastForm p bs).1 (leastForm p bs).2) st :=
  init_ok (h.sub) hk (t.fp.mono hn) t.pos (t.bok (by omega)) t.ok
theorem rhythm_ok (h : Has T idsMake) (hk : 5 < k) (t : Tame n p bs) (hn : n ≤ 3900) {ρ : BR.Env} {st' : Store} {a : AM} (ha : a ρ st' = .ok [fr p, .tup (bs.map bt)] st) :
    fMake (runFn T k) 111 false a ρ st' = .ok (.val (rl p bs)) st := by
  rw [fMake_ev, ha, bind_ok, kMake_ev, make111 h hk t hn, bind_ok]
  rfl
theorem period_ok (h : Has T [112]) (hk : 0 < k) : runFn T k 112 [rhy p bs] st = .ok (.val (fr p)) st := by
  rw [run_at (h.at 112) hk]
  rfl
theorem beats_ok (h : Has T [113]) (hk : 0 < k) : runFn T k 113 [rhy p bs] st = .ok (.val (.tup (bs.map bt))) st := by
  rw [run_at (h.at 113) hk]
  rfl
theorem len_ok (h : Has T [115]) (hk : 0 < k) : runFn T k 115 [rhy p bs] st = .ok (.val (.int bs.length)) st := by
  rw [run_at (h.at 115) hk]
  unfold b115
  have e : eOp1S nLenS (eAttr 0 "row" (eVar 0)) [.val (rhy p bs)] st = .ok (.int (bs.map bt).length) st := rfl
  rw [List.length_map] at e
  show BR.finish (sRet _ [.val (rhy p bs)] st) = _
  rw [sRet_ev, fVal_ev, e]
  rfl
/-! ### equality of values -/
theorem eqvs_bt : ∀ (xs ys : List Beat), eqvs (xs.map bt) (ys.map bt) = decide (xs = ys)
  | [], [] => rfl
  | [], y :: ys => by simp [eqvs]
  | x :: xs, [] => by simp [eqvs]
  | x :: xs, y :: ys => by
    rw [List.map_cons, List.map_cons]
    show (eqv (bt x) (bt y) && eqvs (xs.map bt) (ys.map bt)) = _
    rw [eqv_bt, eqvs_bt xs ys, ← Bool.decide_and]
    exact decide_eq_decide.mpr ⟨fun ⟨h1, h2⟩ => by rw [h1, h2], fun h => by cases h; exact ⟨rfl, rfl⟩⟩
theorem plain_bt' {x : Beat} (m : Nat) (h : Txt x.2) : plain (m + 2) (bt x) = true := by
  show (true && true && true && (x.2.all (fun c => decide (c < 1114112)) && true)) = true
  rw [show x.2.all (fun c => decide (c < 1114112)) = true from h]
  rfl
theorem plains_bt' (m : Nat) : ∀ {acc : List Beat}, (∀ x ∈ acc, Txt x.2) → plains (m + 2) (acc.map bt) = true
  | [], _ => by unfold plains; rfl
  | x :: acc, h => by
    rw [List.map_cons]
    unfold plains
    rw [plain_bt' m (h x List.mem_cons_self), plains_bt' m fun y hy => h y (List.mem_cons_of_mem _ hy)]
    rfl
abbrev Txts (bs : List Beat) : Prop := ∀ b ∈ bs, Txt b.2
theorem pEq_of {a b : PV} (ha : plain 8 a = true) (hb : plain 8 b = true) : pEq a b = some (.bl (eqv a b)) := by
  unfold pEq
  rw [ha, hb]
  rfl
theorem pNe_of {a b : PV} (ha : plain 8 a = true) (hb : plain 8 b = true) : pNe a b = some (.bl (!eqv a b)) := by
  unfold pNe
  rw [ha, hb]
  rfl
theorem plain_tup (m : Nat) (h : Txts as) : plain (m + 3) (.tup (as.map bt)) = true := plains_bt' m h
theorem plain_lst (m : Nat) (h : Txts as) : plain (m + 3) (.lst (as.map bt)) = true := plains_bt' m h
theorem pEq_tup (ha : Txts as) (hb : Txts bs) : pEq (.tup (as.map bt)) (.tup (bs.map bt)) = some (.bl (decide (as = bs))) := by
  rw [pEq_of (plain_tup 5 ha) (plain_tup 5 hb)]
  exact congrArg (fun x => some (PV.bl x)) (eqvs_bt as bs)
theorem pNe_tup (ha : Txts as) (hb : Txts bs) : pNe (.tup (as.map bt)) (.tup (bs.map bt)) = some (.bl (!decide (as = bs))) := by
  rw [pNe_of (plain_tup 5 ha) (plain_tup 5 hb)]
  exact congrArg (fun x => some (PV.bl (!x))) (eqvs_bt as bs)
theorem pEq_lst (ha : Txts as) (hb : Txts bs) : pEq (.lst (as.map bt)) (.lst (bs.map bt)) = some (.bl (decide (as = bs))) := by
  rw [pEq_of (plain_lst 5 ha) (plain_lst 5 hb)]
  exact congrArg (fun x => some (PV.bl x)) (eqvs_bt as bs)
theorem pNe_lst (ha : Txts as) (hb : Txts bs) : pNe (.lst (as.map bt)) (.lst (bs.map bt)) = some (.bl (!decide (as = bs))) := by
  rw [pNe_of (plain_lst 5 ha) (plain_lst 5 hb)]
  exact congrArg (fun x => some (PV.bl (!x))) (eqvs_bt as bs)
theorem plain_lf {r : Rat × List Beat} (h : Txts r.2) : plain 8 (lf r) = true := by
  have h1 := plain_tup (as := r.2) 4 h
  show (plain 7 (fr r.1) && (plain 7 (.tup (r.2.map bt)) && true)) = true
  rw [h1]
  rfl
theorem eqv_lf (r s : Rat × List Beat) : eqv (lf r) (lf s) = decide (r = s) := by
  show (eqv (fr r.1) (fr s.1) && (eqvs (r.2.map bt) (s.2.map bt) && true)) = _
  rw [eqv_fr, eqvs_bt, Bool.and_true, ← Bool.decide_and]
  exact decide_eq_decide.mpr ⟨fun ⟨h1, h2⟩ => Prod.ext h1 h2, fun h => by rw [h]; exact ⟨rfl, rfl⟩⟩
theorem pEq_lf {r s : Rat × List Beat} (hr : Txts r.2) (hs : Txts s.2) : pEq (lf r) (lf s) = some (.bl (decide (r = s))) := by rw [pEq_of (plain_lf hr) (plain_lf hs), eqv_lf]
theorem pNe_lf {r s : Rat × List Beat} (hr : Txts r.2) (hs : Txts s.2) : pNe (lf r) (lf s) = some (.bl (!decide (r = s))) := by rw [pNe_of (plain_lf hr) (plain_lf hs), eqv_lf]
theorem eq_ok (h : Has T [114]) (hk : 0 < k) (ha : Txts as) (hb : Txts bs) : runFn T k 114 [rhy p as, rhy q bs] st = .ok (.val (.bl (decide ((p, as) = (q, bs))))) st := by
  rw [run_at (h.at 114) hk]
  unfold b114
  have s1 : eOp1S (pIsiOwn 0 ["tuple"]) (eVar 1) [.val (rhy p as), .val (rhy q bs)] st = .ok (.bl true) st := rfl
  have s2 : eOp2 pEq (eAttr 0 "size" (eVar 0)) (eAttr 0 "size" (eVar 1)) [.val (rhy p as), .val (rhy q bs)] st = .ok (.bl (decide (p = q))) st := by
    show R.ofOpt (pEq (fr p) (fr q)) st = _
    rw [pEq_fr]
    rfl
  have s3 : eOp2 pEq (eAttr 0 "row" (eVar 0)) (eAttr 0 "row" (eVar 1)) [.val (rhy p as), .val (rhy q bs)] st = .ok (.bl (decide (as = bs))) st := by
    show R.ofOpt (pEq (.tup (as.map bt)) (.tup (bs.map bt))) st = _
    rw [pEq_tup ha hb]
    rfl
  show BR.finish (sRet _ [.val (rhy p as), .val (rhy q bs)] st) = _
  rw [sRet_ev, fVal_ev, eAnd_ev, s1, bind_ok, kAndE_t, eAnd_ev, s2, bind_ok]
  by_cases e : p = q
  · rw [decide_eq_true e, kAndE_t, s3]
    by_cases e2 : as = bs
    · rw [decide_eq_true e2, decide_eq_true (show (p, as) = (q, bs) from by rw [e, e2])]
      rfl
    · rw [decide_eq_false e2, decide_eq_false (show ¬ (p, as) = (q, bs) from fun z => e2 (congrArg Prod.snd z))]
      rfl
  · rw [decide_eq_false e, decide_eq_false (show ¬ (p, as) = (q, bs) from fun z => e (congrArg Prod.fst z))]
    rfl
theorem eq_tup (h : Has T [114]) (hk : 0 < k) (xs : List PV) : runFn T k 114 [rhy p as, .tup xs] st = .ok (.val (.bl false)) st := by
  rw [run_at (h.at 114) hk]
  have e : tyAmong ["tuple"] (.tup xs) = true := by kernel_rfl
  have s1 : eOp1S (pIsiOwn 0 ["tuple"]) (eVar 1) [.val (rhy p as), .val (.tup xs)] st = .ok (.bl false) st := by
    show R.ofOpt (if (insOf 0 (PV.tup xs) st).isSome then some (PV.bl true) else if tyAmong ["tuple"] (.tup xs) then some (.bl false) else none) st = _
    rw [e]
    rfl
  unfold b114
  show BR.finish (sRet _ [.val (rhy p as), .val (.tup xs)] st) = _
  rw [sRet_ev, fVal_ev, eAnd_ev, s1]
  rfl
/-! ### as expressions -/
variable {ρ : BR.Env} {st1 st2 : Store} {m1 m2 : EM}
theorem fOwn_rhy {call : CallT} {id : Nat} {Ts : List String} (h1 : m1 ρ st = .ok (rhy p as) st1) (h2 : m2 ρ st1 = .ok (rhy q bs) st2) : fOwn call id 0 Ts m1 m2 ρ st = call id [rhy p as, rhy q bs] st2 := by
  unfold fOwn
  rw [h1, bind_ok, h2, bind_ok]
  exact if_pos rfl
theorem eq_exp (h : Has T [114]) (hk : 0 < k) {Ts : List String} (ha : Txts as) (hb : Txts bs) (h1 : m1 ρ st = .ok (rhy p as) st1) (h2 : m2 ρ st1 = .ok (rhy q bs) st2) :
    fOwn (runFn T k) 114 0 Ts m1 m2 ρ st = .ok (.val (.bl (decide ((p, as) = (q, bs))))) st2 := by rw [fOwn_rhy h1 h2, eq_ok h hk ha hb]
theorem ne_exp (h : Has T [114]) (hk : 0 < k) {Ts : List String} (ha : Txts as) (hb : Txts bs) (h1 : m1 ρ st = .ok (rhy p as) st1) (h2 : m2 ρ st1 = .ok (rhy q bs) st2) :
    fOwnNe (runFn T k) 114 0 Ts m1 m2 ρ st = .ok (.val (.bl (!decide ((p, as) = (q, bs))))) st2 := by
  unfold fOwnNe
  rw [h1, bind_ok, h2, bind_ok]
  refine (if_pos rfl).trans ?_
  rw [eq_ok h hk ha hb]
  rfl
theorem ne_tup (h : Has T [114]) (hk : 0 < k) {xs : List PV} (h1 : m1 ρ st = .ok (rhy p as) st1) (h2 : m2 ρ st1 = .ok (.tup xs) st2) :
    fOwnNe (runFn T k) 114 0 ["tuple"] m1 m2 ρ st = .ok (.val (.bl true)) st2 := by
  have e : tyAmong ["tuple"] (.tup xs) = true := by kernel_rfl
  unfold fOwnNe
  rw [h1, bind_ok, h2, bind_ok]
  refine (if_pos ?_).trans ?_
  · show (true && rightOk 0 ["tuple"] (.tup xs) st2) = true
    unfold rightOk
    rw [e, Bool.or_true]
    rfl
  · rw [eq_tup h hk]
    rfl
theorem fProp_ok {call : CallT} {id : Nat} {v : SV} (h1 : m1 ρ st = .ok (rhy p as) st1) (h2 : call id [rhy p as] st1 = .ok v st2) : fProp call id 0 m1 ρ st = .ok v st2 := by
  unfold fProp
  rw [h1, bind_ok, rhy_ins]
  simp only
  rw [h2]
  rfl
theorem eLen_rhy (h : Has T [115]) (hk : 0 < k) (hl : as.length ≤ 1000) (h1 : m1 ρ st = .ok (rhy p as) st1) : eLenI (runFn T k) 115 0 m1 ρ st = .ok (.int as.length) st1 := by
  unfold eLenI
  rw [h1, bind_ok]
  refine (if_pos rfl).trans ?_
  have e : (runFn T k 115 [rhy p as] st1).noex.bind lenOf = lenOf (.val (.int as.length)) st1 := by
    rw [len_ok h hk, noexY, bind_ok]
  rw [e]
  unfold lenOf
  exact if_pos ⟨by omega, by omega⟩
/-- a call of a method of a rhythm -/
theorem fMeth_rhy {call : CallT} {id : Nat} {f : Str} {ar : AM} {ps : List PV} (h1 : m1 ρ st = .ok (rhy p as) st1) (h2 : ar ρ st1 = .ok ps st2) (hf : look2 ["size", "row", "letters_at"] [fr p, .tup (as.map bt), .dct (as.map fun b => fr b.1) (as.map fun b => .str b.2)] f = none) :
    fMeth call id 0 f m1 ar ρ st = call id (rhy p as :: ps) st2 := by
  unfold fMeth
  rw [h1, bind_ok, rhy_ins]
  simp only
  rw [hf]
  simp only
  rw [h2, bind_ok]
/-! ### how many turns -/
theorem ceil_le {x : Rat} {z : Int} (h : x ≤ (z : Rat)) : x.ceil ≤ z := Rat.ceil_le_iff.mpr h
theorem turns_le {s e : Rat} {N : Nat} (hp : 0 < p) (h : e ≤ s + p * (N : Rat)) : ((e / p).ceil - (s / p).floor).toNat ≤ N + 1 := by
  have h1 := floor_mul (t := s) hp
  have h2 : e / p ≤ (((s / p).floor + 1 + (N : Int) : Int) : Rat) := by
    refine Rat.not_lt.mp fun q => ?_
    rw [Rat.lt_div_iff' hp, Rat.intCast_add, Rat.intCast_add] at q
    have e1 : ((1 : Int) : Rat) = 1 := rfl
    have e2 : ((N : Int) : Rat) = (N : Rat) := rfl
    rw [e1, e2] at q
    grind
  have := ceil_le h2
  omega
theorem fit_ceil {x : Rat} {m : Nat} (h : Fit m x) : x.ceil.natAbs < 2 ^ m := by
  have := fit_floor (q := -x) (m := m) ⟨by rw [Rat.neg_num, Int.natAbs_neg]; exact h.1, h.2⟩
  rw [Rat.ceil_eq_neg_floor_neg, Int.natAbs_neg]
  exact this
theorem big_fit {z : Int} {m : Nat} (h : z.natAbs < 2 ^ m) (hm : m ≤ 62) : -(2 ^ 62) ≤ z ∧ z < 2 ^ 62 := by
  have : 2 ^ m ≤ 2 ^ 62 := Nat.pow_le_pow_right (by decide) hm
  omega
theorem mul_comm3 {a b c : Nat} : a * b * c = a * c * b := Nat.mul_right_comm a b c
end
end BP
set_option Elab.async false
set_option linter.all false
set_option maxRecDepth 100000
set_option maxHeartbeats 4000000
/-! L05: the plain law of k05. -/
namespace K05
open PySem BR MX BP
def ids : List Nat := [64, 65, 67, 68, 69, 70, 71, 72, 73, 74, 75, 77, 105, 106, 107, 108, 109, 110, 111, 112, 113, 114, 115, 116, 117, 161, 162, 163, 164, 183, 184, 185, 186, 187]
theorem has : Has T ids := by
  unfold ids
  repeat (first | exact Has.nil | refine Has.cons rfl ?_)
def b0_1 (call : CallT) : SM := sSet 1 (fVal (eNewL (fLst (aCons (eVar 0) (aCons (eC (.int 0)) (aCons (eC (.int 15)) (aCons (eC (.int 0)) (aNil))))))))
def b0_2b1 (call : CallT) : SM := sAsg (eFrz (fCall call 184 (aCons (eVar 1) (aNil)))) (gTup [gName 7, gName 8])
def b0_2b2 (call : CallT) : SM := sPar 9 10 (fVal (eFrz (fMake call 111 false (aCons (eVar 7) (aCons (eVar 8) (aNil)))))) (fVal (eFrz (fCall call 185 (aCons (eVar 7) (aCons (eVar 8) (aNil))))))
def b0_2b3 (call : CallT) : SM := sIf (tOr (tVal (eOp2 pNe (eTup (aCons (eFrz (fProp call 112 0 (eVar 9))) (aCons (eFrz (fProp call 113 0 (eVar 9))) (aNil)))) (eVar 10))) (tVal (eOp2 pNe (eLenI call 115 0 (eVar 9)) (eOp1S nLenS (eOp2S pIdxS (eVar 10) (eC (.int 1))))))) (sRet (fVal (eC (.bl false)))) (sNil)
def b0_2b4 (call : CallT) : SM := sSet 4 (fVal (eOp2 pAdd (eVar 8) (eOpN nTuple (aCons (eFrz (fLc (wItems (eVar 8)) [6, 11] (gTup [gName 6, gName 11]) (tYes) (eTup (aCons (eFrz (fCall call 162 (aCons (eVar 6) (aCons (eVar 7) (aNil))))) (aCons (eVar 11) (aNil)))))) (aNil)))))
def b0_2b5 (call : CallT) : SM := sIf (tOr (tVal (eFrz (fOwnNe call 114 0 ["tuple"] (eFrz (fMake call 111 false (aCons (eFrz (fCall call 162 (aCons (eVar 7) (aCons (eVar 7) (aNil))))) (aCons (eVar 4) (aNil))))) (eVar 9)))) (tVal (eOp2 pNotN (eFrz (fCall call 1 (aCons (eVar 7) (aCons (eVar 8) (aNil))))) (eC .non)))) (sRet (fVal (eC (.bl false)))) (sNil)
def b0_2b6 (call : CallT) : SM := sSet 5 (fVal (eFrz (fCall call 184 (aCons (eVar 1) (aNil)))))
def b0_2b7 (call : CallT) : SM := sIf (tVal (eOp2 pNe (eFrz (fOwn call 114 0 ["tuple"] (eFrz (fMake call 111 false (aCons (eOp2S pIdxS (eVar 5) (eC (.int 0))) (aCons (eOp2S pIdxS (eVar 5) (eC (.int 1))) (aNil))))) (eVar 9))) (eOp2 pEq (eFrz (fCall call 185 (aCons (eOp2S pIdxS (eVar 5) (eC (.int 0))) (aCons (eOp2S pIdxS (eVar 5) (eC (.int 1))) (aNil))))) (eVar 10)))) (sRet (fVal (eC (.bl false)))) (sNil)
def b0_2b8 (call : CallT) : SM := sSet 6 (fVal (eFrz (fCall call 161 (aCons (eFrz (fCall call 183 (aCons (eVar 1) (aCons (eC (.int 99)) (aNil))))) (aCons (eOp2 pAdd (eC (.int 1)) (eFrz (fCall call 183 (aCons (eVar 1) (aCons (eC (.int 6)) (aNil)))))) (aNil))))))
def b0_2b9 (call : CallT) : SM := sIf (tVal (eOp2 pNe (eFrz (fMeth call 116 0 "sound" (eVar 9) (aCons (eVar 6) (aNil)))) (eFrz (fCall call 187 (aCons (eVar 10) (aCons (eVar 6) (aNil))))))) (sRet (fVal (eC (.bl false)))) (sNil)
def b0_2b10 (call : CallT) : SM := sIf (tVal (eOp2 pNe (eFrz (fMeth call 117 0 "between" (eVar 9) (aCons (eVar 6) (aCons (eFrz (fCall call 162 (aCons (eVar 6) (aCons (eTup (aCons (eC (.int 5)) (aCons (eC (.int 1)) (aNil)))) (aNil))))) (aNil))))) (eFrz (fCall call 186 (aCons (eVar 10) (aCons (eVar 6) (aCons (eFrz (fCall call 162 (aCons (eVar 6) (aCons (eTup (aCons (eC (.int 5)) (aCons (eC (.int 1)) (aNil)))) (aNil))))) (aNil)))))))) (sRet (fVal (eC (.bl false)))) (sNil)
def b0_2b (call : CallT) : SM := sSeq (b0_2b1 call) (sSeq (b0_2b2 call) (sSeq (b0_2b3 call) (sSeq (b0_2b4 call) (sSeq (b0_2b5 call) (sSeq (b0_2b6 call) (sSeq (b0_2b7 call) (sSeq (b0_2b8 call) (sSeq (b0_2b9 call) (b0_2b10 call)))))))))
def b0_2 (call : CallT) : SM := sFor (wRng1 (eC (.int 4))) (gName 2) (b0_2b call)
def b0_3 (call : CallT) : SM := sSet 3 (fVal (eFrz (fLst (aCons (eC .non) (aCons (eC (.int 0)) (aCons (eTup (aCons (eC (.int 0)) (aCons (eC (.int 1)) (aNil)))) (aCons (eTup (aCons (eOp1 pNeg (eC (.int 1))) (aCons (eC (.int 2)) (aNil)))) (aCons (eTup (aCons (eC (.int 2)) (aCons (eC (.int 4)) (aNil)))) (aCons (eTup (aCons (eC (.int 1)) (aCons (eC (.int 0)) (aNil)))) (aCons (eC (.int 3)) (aCons (eC (.str [49])) (aCons (eTup (aCons (eC (.int 1)) (aCons (eC (.int 1)) (aCons (eC (.int 1)) (aNil))))) (aCons (eTup (aCons (eC (.bl true)) (aCons (eC (.int 1)) (aNil)))) (aCons (eFrz (fLst (aCons (eC (.int 1)) (aCons (eC (.int 1)) (aNil))))) (aNil)))))))))))))))
def b0_4 (call : CallT) : SM := sIf (tVal (eOp2 pNe (eFrz (fCall call 1 (aCons (eOp2S pIdxS (eVar 3) (eFrz (fCall call 183 (aCons (eVar 1) (aCons (eOp1S nLenS (eVar 3)) (aNil)))))) (aCons (eC .non) (aNil))))) (eC (.str [112, 101, 114, 105, 111, 100])))) (sRet (fVal (eC (.bl false)))) (sNil)
def b0_5 (call : CallT) : SM := sSet 3 (fVal (eFrz (fLst (aCons (eC .non) (aCons (eFrz (fLst (aNil))) (aCons (eTup (aCons (eC .non) (aNil))) (aCons (eTup (aCons (eTup (aCons (eTup (aCons (eC (.int 1)) (aCons (eC (.int 1)) (aNil)))) (aCons (eC (.str [97])) (aNil)))) (aNil))) (aCons (eTup (aCons (eTup (aCons (eTup (aCons (eC (.int 0)) (aCons (eC (.int 1)) (aNil)))) (aCons (eC (.str [])) (aNil)))) (aNil))) (aCons (eTup (aCons (eTup (aCons (eTup (aCons (eC (.int 0)) (aCons (eC (.int 1)) (aNil)))) (aCons (eC (.str [98, 97])) (aNil)))) (aNil))) (aCons (eTup (aCons (eTup (aCons (eTup (aCons (eC (.int 0)) (aCons (eC (.int 1)) (aNil)))) (aCons (eC (.str [97, 97])) (aNil)))) (aNil))) (aNil)))))))))))
def b0_6 (call : CallT) : SM := sSet 3 (fVal (eOp2 pAdd (eVar 3) (eFrz (fLst (aCons (eTup (aCons (eTup (aCons (eTup (aCons (eC (.int 0)) (aCons (eC (.int 1)) (aNil)))) (aCons (eC (.str [101])) (aNil)))) (aNil))) (aNil))))))
def b0_7 (call : CallT) : SM := sSet 3 (fVal (eOp2 pAdd (eVar 3) (eFrz (fLst (aCons (eTup (aCons (eTup (aCons (eTup (aCons (eC (.int 1)) (aCons (eC (.int 2)) (aNil)))) (aCons (eC (.str [97])) (aNil)))) (aCons (eTup (aCons (eTup (aCons (eC (.int 0)) (aCons (eC (.int 1)) (aNil)))) (aCons (eC (.str [97])) (aNil)))) (aNil)))) (aCons (eTup (aCons (eTup (aCons (eTup (aCons (eC (.int 0)) (aCons (eC (.int 1)) (aNil)))) (aCons (eC (.str [97])) (aNil)))) (aCons (eTup (aCons (eTup (aCons (eC (.int 0)) (aCons (eC (.int 1)) (aNil)))) (aCons (eC (.str [98])) (aNil)))) (aNil)))) (aCons (eTup (aCons (eTup (aCons (eTup (aCons (eOp1 pNeg (eC (.int 1))) (aCons (eC (.int 2)) (aNil)))) (aCons (eC (.str [97])) (aNil)))) (aNil))) (aCons (eTup (aCons (eTup (aCons (eTup (aCons (eC (.int 0)) (aCons (eC (.int 2)) (aNil)))) (aCons (eC (.str [97])) (aNil)))) (aNil))) (aNil)))))))))
def b0_8 (call : CallT) : SM := sSet 3 (fVal (eOp2 pAdd (eVar 3) (eFrz (fLst (aCons (eTup (aCons (eTup (aCons (eC (.int 0)) (aCons (eC (.str [97])) (aNil)))) (aNil))) (aCons (eTup (aCons (eTup (aCons (eTup (aCons (eC (.int 0)) (aCons (eC (.int 1)) (aNil)))) (aCons (eC (.int 1)) (aNil)))) (aNil))) (aCons (eC (.str [97])) (aCons (eTup (aCons (eTup (aCons (eTup (aCons (eC (.int 0)) (aCons (eC (.int 1)) (aNil)))) (aNil))) (aNil))) (aNil)))))))))
def b0_9 (call : CallT) : SM := sRet (fVal (eAnd (eOp2 pEq (eFrz (fCall call 1 (aCons (eTup (aCons (eC (.int 1)) (aCons (eC (.int 1)) (aNil)))) (aCons (eOp2S pIdxS (eVar 3) (eFrz (fCall call 183 (aCons (eVar 1) (aCons (eOp1S nLenS (eVar 3)) (aNil)))))) (aNil))))) (eC (.str [98, 101, 97, 116, 115]))) (eFrz (fOwnNe call 114 0 ["tuple"] (eVar 9) (eVar 10)))))
def b0_ (call : CallT) : SM := sSeq (b0_1 call) (sSeq (b0_2 call) (sSeq (b0_3 call) (sSeq (b0_4 call) (sSeq (b0_5 call) (sSeq (b0_6 call) (sSeq (b0_7 call) (sSeq (b0_8 call) (b0_9 call))))))))
theorem b0_eq (call : CallT) : b0 call = b0_ call := rfl
section
variable {s0 s1 s2 c3 c4 c5 c6 c7 c8 c9 c10 c11 : SV} {o : SO} {p q : Rat} {as bs : List Beat} {ns : List Int}
theorem t1 (ho : RowOk ns o) : ∃ p bs o', b0_2b1 (runFn T 69) [s0, .val (.ref 0), s2, c3, c4, c5, c6, c7, c8, c9, c10, c11] [o] = .next [s0, .val (.ref 0), s2, c3, c4, c5, c6, .val (fr p), .val (.tup (bs.map bt)), c9, c10, c11] [o'] ∧ RowOk ns o' ∧ Drawn p bs := by
  obtain ⟨p, bs, o', e, h1, h2⟩ := lrhythm_ok (T := T) (k := 69) (has.sub) (by decide) (rest := []) ho
  refine ⟨p, bs, o', ?_, h1, h2⟩
  unfold b0_2b1
  simp [e]
theorem t2 (d : Drawn p bs) : b0_2b2 (runFn T 69) [s0, s1, s2, c3, c4, c5, c6, .val (fr p), .val (.tup (bs.map bt)), c9, c10, c11] [o] = .next [s0, s1, s2, c3, c4, c5, c6, .val (fr p), .val (.tup (bs.map bt)), .val (rl p bs), .val (lf (leastForm p bs)), c11] [o] := by
  obtain ⟨t, _, _⟩ := d.tame
  have e1 := rhythm_ok (T := T) (k := 69) (n := 10) (st := [o]) (st' := [o]) (ρ := [s0, s1, s2, c3, c4, c5, c6, .val (fr p), .val (.tup (bs.map bt)), c9, c10, c11]) (a := aCons (eVar 7) (aCons (eVar 8) aNil)) has.sub (by decide) t (by decide) rfl
  have e2 := lleast_ok (T := T) (k := 69) (st := [o]) (id := 185) rfl has.sub (by decide) (beats_tup bs) t.apart (t.fp.mono (by decide)) (fun b hb => ⟨(t.fb b hb).mono (by decide), t.txt b hb⟩) (Nat.le_trans t.len (by decide))
  rw [lawLeast_ok t.mach] at e2
  unfold b0_2b2
  rw [sPar_ev, fVal_ev, eFrz_ev, e1]
  simp [e2]
theorem t3 (d : Drawn p bs) : b0_2b3 (runFn T 69) [s0, s1, s2, c3, c4, c5, c6, .val (fr p), .val (.tup (bs.map bt)), .val (rl p bs), .val (lf (leastForm p bs)), c11] [o] = .next [s0, s1, s2, c3, c4, c5, c6, .val (fr p), .val (.tup (bs.map bt)), .val (rl p bs), .val (lf (leastForm p bs)), c11] [o] := by
  obtain ⟨t, _, _⟩ := d.tame
  have tl := t.least
  unfold rl
  generalize leastForm p bs = r at tl ⊢
  have g1 : eVar 9 [s0, s1, s2, c3, c4, c5, c6, .val (fr p), .val (.tup (bs.map bt)), .val (rhy r.1 r.2), .val (lf r), c11] [o] = .ok (rhy r.1 r.2) [o] := rfl
  have e1 := fProp_ok (call := (runFn T 69)) (id := 112) g1 (period_ok has.sub (by decide))
  have e2 := fProp_ok (call := (runFn T 69)) (id := 113) g1 (beats_ok has.sub (by decide))
  have e3 := eLen_rhy (T := T) (k := 69) has.sub (by decide) tl.len g1
  have e4 := pNe_lf (r := r) (s := r) tl.txt tl.txt
  rw [decide_eq_true rfl] at e4
  have e5 : eTup (aCons (eFrz (fProp (runFn T 69) 112 0 (eVar 9))) (aCons (eFrz (fProp (runFn T 69) 113 0 (eVar 9))) (aNil))) [s0, s1, s2, c3, c4, c5, c6, .val (fr p), .val (.tup (bs.map bt)), .val (rhy r.1 r.2), .val (lf r), c11] [o] = .ok (lf r) [o] := by
    simp [e1, e2]
    rfl
  have e6 : nLenS (.tup (r.2.map bt)) [o] = some (.int r.2.length) := by rw [nLenS_tup, List.length_map]
  have e7 : eOp1S nLenS (eOp2S pIdxS (eVar 10) (eC (.int 1))) [s0, s1, s2, c3, c4, c5, c6, .val (fr p), .val (.tup (bs.map bt)), .val (rhy r.1 r.2), .val (lf r), c11] [o] = .ok (.int r.2.length) [o] := by
    rw [eOp1S_ev, eOp2S_ev, show eVar 10 [s0, s1, s2, c3, c4, c5, c6, .val (fr p), .val (.tup (bs.map bt)), .val (rhy r.1 r.2), .val (lf r), c11] [o] = .ok (lf r) [o] from rfl, bind_ok, kOp2S_ev, eC_ev, bind_ok, kOptS_ev, lf_at1, ofOpt_some, bind_ok, kOptS_ev, e6, ofOpt_some]
  have e8 : pNe (.int (r.2.length : Int)) (.int r.2.length) = some (.bl false) := by rw [pNe_int, decide_eq_true rfl]; rfl
  unfold b0_2b3
  rw [sIf_ev, tOr_ev, tVal_ev, eOp2_ev, e5, bind_ok, kOp2_ev, show eVar 10 [s0, s1, s2, c3, c4, c5, c6, .val (fr p), .val (.tup (bs.map bt)), .val (rhy r.1 r.2), .val (lf r), c11] [o] = .ok (lf r) [o] from rfl, bind_ok, kOpt_ev, e4, ofOpt_some, bind_ok, tblK_ev, bind_ok, Bool.not_true, kOr_f, tVal_ev, eOp2_ev, e3, bind_ok, kOp2_ev, e7, bind_ok, kOpt_ev, e8, ofOpt_some, bind_ok, tblK_ev, bindS_ok, kIfS_f]
  rfl
theorem again_eq (p : Rat) (bs : List Beat) : bs ++ bs.map (fun b => (b.1 + p, b.2)) = rep p bs 2 := by
  unfold rep
  simp only [show List.range 2 = [0, 1] from rfl, List.flatMap_cons, List.flatMap_nil, List.append_nil]
  have z0 : ((0 : Nat) : Rat) = 0 := rfl
  have z1 : ((1 : Nat) : Rat) = 1 := rfl
  congr 1
  · conv => lhs; rw [← List.map_id bs]
    refine List.map_congr_left fun b _ => ?_
    rw [z0, Rat.mul_zero, Rat.zero_add]
    rfl
  · refine List.map_congr_left fun b _ => ?_
    rw [z1, Rat.mul_one, Rat.add_comm]
theorem again_tame {n : Nat} (t : Tame n p bs) (hl : bs.length ≤ 500) : Tame (n + n + 1) (p + p) (rep p bs 2) ∧ leastForm (p + p) (rep p bs 2) = leastForm p bs := by
  have m := rep_mach t.mach (m := 2) (by decide)
  have e2 : p * ((2 : Nat) : Rat) = p + p := by
    have : ((2 : Nat) : Rat) = 2 := rfl
    rw [this]
    grind
  rw [e2] at m
  refine ⟨⟨m.pos, m.asc, fun b hb => ⟨(m.inn b hb).1, (m.inn b hb).2.1, ?_⟩, fit_add t.fp t.fp, fun b hb => ?_, by rw [rep_len]; omega⟩, ?_⟩
  · obtain ⟨j, hj, c, hc, rfl⟩ := mem_rep.mp hb
    exact (t.inn c hc).2.2
  · rw [← again_eq] at hb
    rcases List.mem_append.mp hb with hb | hb
    · exact (t.fb b hb).mono (by omega)
    · obtain ⟨c, hc, rfl⟩ := List.mem_map.mp hb
      exact fit_add (t.fb c hc) t.fp
  · refine leastForm_ext m t.mach fun x => ?_
    have := rep_snd t.mach (m := 2) (by decide) x
    rwa [e2] at this
theorem t4 (d : Drawn p bs) {v9 v10 : SV} : b0_2b4 (runFn T 69) [s0, s1, s2, c3, c4, c5, c6, .val (fr p), .val (.tup (bs.map bt)), v9, v10, c11] [o] = .next [s0, s1, s2, c3, .val (.tup ((rep p bs 2).map bt)), c5, c6, .val (fr p), .val (.tup (bs.map bt)), v9, v10, c11] [o] := by
  obtain ⟨t, l8, _⟩ := d.tame
  have e1 := fLc_map (st := [o]) (ρ := [s0, s1, s2, c3, c4, c5, c6, .val (fr p), .val (.tup (bs.map bt)), v9, v10, c11]) (w := wItems (eVar 8)) (own := [6, 11]) (g := gTup [gName 6, gName 11])
    (e := eTup (aCons (eFrz (fCall (runFn T 69) 162 (aCons (eVar 6) (aCons (eVar 7) (aNil))))) (aCons (eVar 11) (aNil)))) bt (fun b => bt (b.1 + p, b.2)) bs (by simp) (Nat.le_trans t.len (by decide)) (fun b hb => by
      refine ⟨[s0, s1, s2, c3, c4, c5, .val (fr b.1), .val (fr p), .val (.tup (bs.map bt)), v9, v10, .val (.str b.2)], rfl, ?_⟩
      have e := lsum_ok (T := T) (k := 69) (st := [o]) has.sub (by decide) ((t.fb b hb).mono (by decide)) (t.fp.mono (by decide))
      simp [e, bt])
  have nt : nTuple [.lst (bs.map fun b => bt (b.1 + p, b.2))] = some (.tup (bs.map fun b => bt (b.1 + p, b.2))) := rfl
  have pa : pAdd (.tup (bs.map bt)) (.tup (bs.map fun b => bt (b.1 + p, b.2))) = some (.tup ((rep p bs 2).map bt)) := by
    unfold pAdd
    simp only
    rw [if_pos (by rw [List.length_map, List.length_map]; have : lim = 1000000 := rfl; omega), ← again_eq, List.map_append, List.map_map]
    rfl
  unfold b0_2b4
  rw [sSet_ev, fVal_ev, eOp2_ev, show eVar 8 [s0, s1, s2, c3, c4, c5, c6, .val (fr p), .val (.tup (bs.map bt)), v9, v10, c11] [o] = .ok (.tup (bs.map bt)) [o] from rfl, bind_ok, kOp2_ev, eOpN_ev, aCons_ev, eFrz_ev, e1]
  simp [nt, pa]
theorem refused_none (t : Tame 10 p bs) : runFn T 69 1 [fr p, .tup (bs.map bt)] [o] = .ok (.val .non) [o] := by
  have e := make111 (T := T) (k := 68) (st := [o]) has.sub (by decide) t (by decide)
  rw [run_fn (T := T) (k := 68) (id := 1) (ps := 2) (n := 3) (body := b1) rfl rfl]
  have e2 : fMake (runFn T 68) 111 false (aCons (eVar 0) (aCons (eVar 1) aNil)) [.val (fr p), .val (.tup (bs.map bt)), .val .non] [o] = .ok (.val (rl p bs)) [o] := rhythm_ok has.sub (by decide) t (by decide) rfl
  unfold b1
  show BR.finish (sSeq _ _ [.val (fr p), .val (.tup (bs.map bt)), .un] [o]) = _
  rw [sSeq_ev, show sSet 2 (fVal (eC .non)) [.val (fr p), .val (.tup (bs.map bt)), .un] [o] = .next [.val (fr p), .val (.tup (bs.map bt)), .val .non] [o] from rfl, seq_next, sSeq_ev, sTry_ev, sDrop_ev, eFrz_ev, e2]
  rfl
theorem t5 (d : Drawn p bs) : b0_2b5 (runFn T 69) [s0, s1, s2, c3, .val (.tup ((rep p bs 2).map bt)), c5, c6, .val (fr p), .val (.tup (bs.map bt)), .val (rl p bs), c10, c11] [o] = .next [s0, s1, s2, c3, .val (.tup ((rep p bs 2).map bt)), c5, c6, .val (fr p), .val (.tup (bs.map bt)), .val (rl p bs), c10, c11] [o] := by
  obtain ⟨t, l8, _⟩ := d.tame
  obtain ⟨t2, el⟩ := again_tame t (by omega)
  have e1 := lsum_ok (T := T) (k := 69) (st := [o]) has.sub (by decide) (t.fp.mono (by decide)) (t.fp.mono (by decide))
  have e2 := rhythm_ok (T := T) (k := 69) (n := 21) (st := [o]) (st' := [o]) (ρ := [s0, s1, s2, c3, .val (.tup ((rep p bs 2).map bt)), c5, c6, .val (fr p), .val (.tup (bs.map bt)), .val (rl p bs), c10, c11]) (a := aCons (eFrz (fCall (runFn T 69) 162 (aCons (eVar 7) (aCons (eVar 7) (aNil))))) (aCons (eVar 4) (aNil))) has.sub (by decide) t2 (by decide) (by simp [e1])
  have g1 : eFrz (fMake (runFn T 69) 111 false (aCons (eFrz (fCall (runFn T 69) 162 (aCons (eVar 7) (aCons (eVar 7) (aNil))))) (aCons (eVar 4) (aNil)))) [s0, s1, s2, c3, .val (.tup ((rep p bs 2).map bt)), c5, c6, .val (fr p), .val (.tup (bs.map bt)), .val (rl p bs), c10, c11] [o] = .ok (rl p bs) [o] := by
    rw [eFrz_ev, e2]
    unfold rl
    rw [el]
    rfl
  have e3 := ne_exp (T := T) (k := 69) (Ts := ["tuple"]) has.sub (by decide) t.least.txt t.least.txt g1 (show eVar 9 [s0, s1, s2, c3, .val (.tup ((rep p bs 2).map bt)), c5, c6, .val (fr p), .val (.tup (bs.map bt)), .val (rl p bs), c10, c11] [o] = .ok (rl p bs) [o] from rfl)
  rw [decide_eq_true rfl] at e3
  have e4 := refused_none (o := o) t
  have e5 : pNotN .non .non = some (.bl false) := rfl
  unfold b0_2b5
  rw [sIf_ev, tOr_ev, tVal_ev, eFrz_ev, e3]
  simp [e4, e5]
theorem t6 (ho : RowOk ns o) {v7 v8 v9 v10 : SV} : ∃ q cs o', b0_2b6 (runFn T 69) [s0, .val (.ref 0), s2, c3, c4, c5, c6, v7, v8, v9, v10, c11] [o] = .next [s0, .val (.ref 0), s2, c3, c4, .val (.lst [fr q, .tup (cs.map bt)]), c6, v7, v8, v9, v10, c11] [o'] ∧ RowOk ns o' ∧ Drawn q cs := by
  obtain ⟨p, bs, o', e, h1, h2⟩ := lrhythm_ok (T := T) (k := 69) (has.sub) (by decide) (rest := []) ho
  refine ⟨p, bs, o', ?_, h1, h2⟩
  unfold b0_2b6
  simp [e]
theorem t7 (d : Drawn p bs) {cs : List Beat} (d2 : Drawn q cs) : b0_2b7 (runFn T 69) [s0, s1, s2, c3, c4, .val (.lst [fr q, .tup (cs.map bt)]), c6, c7, c8, .val (rl p bs), .val (lf (leastForm p bs)), c11] [o] = .next [s0, s1, s2, c3, c4, .val (.lst [fr q, .tup (cs.map bt)]), c6, c7, c8, .val (rl p bs), .val (lf (leastForm p bs)), c11] [o] := by
  obtain ⟨t, _, _⟩ := d.tame
  obtain ⟨t2, _, _⟩ := d2.tame
  generalize hρ : ([s0, s1, s2, c3, c4, .val (.lst [fr q, .tup (cs.map bt)]), c6, c7, c8, .val (rl p bs), .val (lf (leastForm p bs)), c11] : BR.Env) = ρ
  have g5 : eVar 5 ρ [o] = .ok (.lst [fr q, .tup (cs.map bt)]) [o] := by rw [← hρ]; rfl
  have g9 : eVar 9 ρ [o] = .ok (rl p bs) [o] := by rw [← hρ]; rfl
  have g10 : eVar 10 ρ [o] = .ok (lf (leastForm p bs)) [o] := by rw [← hρ]; rfl
  have ga : aCons (eOp2S pIdxS (eVar 5) (eC (.int 0))) (aCons (eOp2S pIdxS (eVar 5) (eC (.int 1))) (aNil)) ρ [o] = .ok [fr q, .tup (cs.map bt)] [o] := by
    simp only [aCons_ev, eOp2S_ev, g5, bind_ok, kOp2S_ev, eC_ev, kOptS_ev, pIdxS_lst, pIdx_lst, at20, at21, ofOpt_some, kCons_ev, aNil_ev, kCons2_ev]
  have e1 := rhythm_ok (T := T) (k := 69) (n := 10) (st := [o]) (st' := [o]) has.sub (by decide) t2 (by decide) ga
  have e2 := lleast_ok (T := T) (k := 69) (st := [o]) (id := 185) rfl has.sub (by decide) (beats_tup cs) t2.apart (t2.fp.mono (by decide)) (fun b hb => ⟨(t2.fb b hb).mono (by decide), t2.txt b hb⟩) (Nat.le_trans t2.len (by decide))
  rw [lawLeast_ok t2.mach] at e2
  have e3 := eq_exp (T := T) (k := 69) (Ts := ["tuple"]) (m1 := eFrz (fMake (runFn T 69) 111 false (aCons (eOp2S pIdxS (eVar 5) (eC (.int 0))) (aCons (eOp2S pIdxS (eVar 5) (eC (.int 1))) (aNil))))) (p := (leastForm q cs).1) (as := (leastForm q cs).2) (q := (leastForm p bs).1) (bs := (leastForm p bs).2) (ρ := ρ) (st := [o]) (st1 := [o]) (st2 := [o]) has.sub (by decide) t2.least.txt t.least.txt (by rw [eFrz_ev, e1]; rfl) g9
  have e4 := pEq_lf (r := leastForm q cs) (s := leastForm p bs) t2.least.txt t.least.txt
  have e5 : eFrz (fCall (runFn T 69) 185 (aCons (eOp2S pIdxS (eVar 5) (eC (.int 0))) (aCons (eOp2S pIdxS (eVar 5) (eC (.int 1))) (aNil)))) ρ [o] = .ok (lf (leastForm q cs)) [o] := by
    rw [eFrz_ev, fCall_ev, ga, bind_ok, e2]
    rfl
  have ed : decide (((leastForm q cs).1, (leastForm q cs).2) = ((leastForm p bs).1, (leastForm p bs).2)) = decide (leastForm q cs = leastForm p bs) := rfl
  rw [ed] at e3
  have pn : ∀ b : Bool, pNe (.bl b) (.bl b) = some (.bl false) := fun b => by cases b <;> rfl
  unfold b0_2b7
  rw [sIf_ev, tVal_ev, eOp2_ev, eFrz_ev, e3, bind_ok, kFrz_ev, toPV_val, ofOpt_some, bind_ok, kOp2_ev, eOp2_ev, e5, bind_ok, kOp2_ev, g10, bind_ok, kOpt_ev, e4, ofOpt_some, bind_ok, kOpt_ev, pn]
  rfl
theorem t8 (ho : RowOk ns o) {v7 v8 v9 v10 : SV} : ∃ t o', b0_2b8 (runFn T 69) [s0, .val (.ref 0), s2, c3, c4, c5, c6, v7, v8, v9, v10, c11] [o] = .next [s0, .val (.ref 0), s2, c3, c4, c5, .val (fr t), v7, v8, v9, v10, c11] [o'] ∧ RowOk ns o' ∧ Fit 10 t := by
  obtain ⟨v, o1, e1, v0, v1, h1⟩ := ltaken_ok (T := T) (k := 69) (id := 183) rfl (by decide) (rest := []) (m := 99) ho
  obtain ⟨w, o2, e2, w0, w1, h2⟩ := ltaken_ok (T := T) (k := 69) (id := 183) rfl (by decide) (rest := []) (m := 6) h1
  have e3 := lfrac_ok (T := T) (k := 69) (st := [o2]) has.sub (by decide) (n := v) (p := 1 + w) (by omega) (Nat.lt_of_lt_of_le (show _ < 2 ^ 3 from by omega) (by decide +kernel))
  refine ⟨Rat.divInt v (1 + w), o2, ?_, h2, fit_div (by omega) (by omega) (by omega)⟩
  unfold b0_2b8
  simp [-Rat.divInt_ofNat, e1, e2, e3]
theorem t9 (d : Drawn p bs) {t : Rat} (ft : Fit 10 t) : b0_2b9 (runFn T 69) [s0, s1, s2, c3, c4, c5, .val (fr t), c7, c8, .val (rl p bs), .val (lf (leastForm p bs)), c11] [o] = .next [s0, s1, s2, c3, c4, c5, .val (fr t), c7, c8, .val (rl p bs), .val (lf (leastForm p bs)), c11] [o] := by
  obtain ⟨tm, _, _⟩ := d.tame
  have tl := tm.least
  unfold rl
  generalize leastForm p bs = r at tl ⊢
  have e1 := sound_ok (T := T) (k := 69) (st := [o]) has.sub (by decide) (t := t) (p := r.1) (bs := r.2) (ft.mono (by decide)) (tl.fp.mono (by decide)) tl.nz
  have e2 := lsound_ok (T := T) (k := 69) (st := [o]) (id := 187) rfl has.sub (by decide) (t := t) tl.pos (tl.fp.mono (by decide)) (ft.mono (by decide)) tl.apart (Nat.le_trans tl.len (by decide))
  have e3 := pNe_str (look_txt (t := rbey t r.1) tl.txt) (look_txt (t := rbey t r.1) tl.txt)
  rw [decide_eq_true rfl] at e3
  have e4 := fMeth_rhy (call := (runFn T 69)) (id := 116) (f := "sound") (m1 := eVar 9) (ar := aCons (eVar 6) aNil) (p := r.1) (as := r.2) (ps := [fr t]) (ρ := [s0, s1, s2, c3, c4, c5, .val (fr t), c7, c8, .val (rhy r.1 r.2), .val (lf r), c11]) (st := [o]) (st1 := [o]) (st2 := [o]) rfl rfl (by kernel_rfl)
  rw [e1] at e4
  unfold snd at e2
  unfold b0_2b9
  rw [sIf_ev, tVal_ev, eOp2_ev, eFrz_ev, e4]
  simp [e2, e3]
theorem t10 (d : Drawn p bs) {t : Rat} (ft : Fit 10 t) : b0_2b10 (runFn T 69) [s0, s1, s2, c3, c4, c5, .val (fr t), c7, c8, .val (rl p bs), .val (lf (leastForm p bs)), c11] [o] = .next [s0, s1, s2, c3, c4, c5, .val (fr t), c7, c8, .val (rl p bs), .val (lf (leastForm p bs)), c11] [o] := by
  obtain ⟨tm, l8, lo⟩ := d.tame
  have tl := tm.least
  have bnd : (betw (leastForm p bs).1 (leastForm p bs).2 t (t + 5)).length ≤ 10000 := by
    have hle := betw_le (p := (leastForm p bs).1) (s := t) (e := t + 5) (bs := (leastForm p bs).2)
    by_cases hn : bs = []
    · subst hn
      rw [leastForm_nil] at hle ⊢
      have hle : (betw 1 [] t (t + 5)).length ≤ _ * 0 := hle
      show (betw 1 [] t (t + 5)).length ≤ 10000
      omega
    · obtain ⟨m, m0, m1, _, _, e⟩ := leastForm_some tm.mach hn
      rw [e] at hle ⊢
      have hq := div_pos tm.pos m0
      have hd := div_nat (p := p) m0
      have := turns_le (s := t) (e := t + 5) (N := 160) hq (by
        have hm : (m : Rat) ≤ ((8 : Nat) : Rat) := Rat.natCast_le_natCast.mpr (by omega)
        have e8 : ((8 : Nat) : Rat) = 8 := rfl
        have e160 : ((160 : Nat) : Rat) = 160 := rfl
        rw [e8] at hm
        rw [e160]
        have := Rat.mul_le_mul_of_nonneg_left hm (Rat.le_of_lt hq)
        rw [hd] at this
        grind)
      have l2 : (blk (p / (m : Rat)) bs).length ≤ 8 := Nat.le_trans (List.length_filter_le _ _) l8
      have := Nat.mul_le_mul this l2
      exact Nat.le_trans hle (Nat.le_trans this (by decide))
  unfold rl
  generalize leastForm p bs = r at tl bnd ⊢
  have f5 : Fit 3 (5 : Rat) := ⟨by decide, by decide⟩
  have fe := fit_add ft f5
  have e0 := lsum_ok (T := T) (k := 69) (st := [o]) has.sub (by decide) (a := t) (b := 5) (ft.mono (by decide)) (f5.mono (by decide))
  have h1 := big_fit (fit_floor (fit_over ft tl.fp tl.nz)) (by decide)
  have h2 := big_fit (fit_ceil (fit_over fe tl.fp tl.nz)) (by decide)
  have e1 := between_ok (T := T) (k := 69) (st := [o]) has.sub (by decide) (p := r.1) (s := t) (e := t + 5) (bs := r.2) (tl.fp.mono (by decide)) tl.nz (ft.mono (by decide)) (fe.mono (by decide)) (fun b hb => (tl.fb b hb).mono (by decide)) h1 h2 (Nat.le_trans bnd (by decide))
  have e2 := lbetween_ok (T := T) (k := 69) (st := [o]) (id := 186) rfl has.sub (by decide) (p := r.1) (s := t) (e := t + 5) (bs := r.2) tl.pos (tl.fp.mono (by decide)) (fun b hb => (tl.fb b hb).mono (by decide)) (ft.mono (by decide)) (fe.mono (by decide)) h1 h2 (Nat.le_trans bnd (by decide))
  have tx : Txts (betw r.1 r.2 t (t + 5)) := fun b hb => by
    obtain ⟨_, c, _, _, hc, e, _⟩ := mem_betw hb
    rw [e]
    exact tl.txt c hc
  have e3 := pNe_lst tx tx
  rw [decide_eq_true rfl] at e3
  have fr5 : fr 5 = .tup [.int 5, .int 1] := rfl
  rw [fr5] at e0
  have e4 := fMeth_rhy (call := (runFn T 69)) (id := 117) (f := "between") (m1 := eVar 9) (ar := aCons (eVar 6) (aCons (eFrz (fCall (runFn T 69) 162 (aCons (eVar 6) (aCons (eTup (aCons (eC (.int 5)) (aCons (eC (.int 1)) (aNil)))) (aNil))))) (aNil))) (p := r.1) (as := r.2) (ps := [fr t, fr (t + 5)]) (ρ := [s0, s1, s2, c3, c4, c5, .val (fr t), c7, c8, .val (rhy r.1 r.2), .val (lf r), c11]) (st := [o]) (st1 := [o]) (st2 := [o]) rfl (by simp [e0]) (by kernel_rfl)
  rw [e1] at e4
  have er : (r.1, r.2) = r := rfl
  rw [er] at e2
  unfold b0_2b10
  rw [sIf_ev, tVal_ev, eOp2_ev, eFrz_ev, e4]
  simp [e0, e2, e3]
theorem turn (ho : RowOk ns o) : ∃ p bs o' d4 d5 d6 d7 d8, b0_2b (runFn T 69) [s0, .val (.ref 0), s2, c3, c4, c5, c6, c7, c8, c9, c10, c11] [o] = .next [s0, .val (.ref 0), s2, c3, d4, d5, d6, d7, d8, .val (rl p bs), .val (lf (leastForm p bs)), c11] [o'] ∧ RowOk ns o' ∧ Txts (leastForm p bs).2 := by
  obtain ⟨p, bs, o1, e1, h1, d⟩ := t1 (s0 := s0) (s2 := s2) (c3 := c3) (c4 := c4) (c5 := c5) (c6 := c6) (c7 := c7) (c8 := c8) (c9 := c9) (c10 := c10) (c11 := c11) ho
  have e2 := t2 (o := o1) (s0 := s0) (s1 := .val (.ref 0)) (s2 := s2) (c3 := c3) (c4 := c4) (c5 := c5) (c6 := c6) (c9 := c9) (c10 := c10) (c11 := c11) d
  have e3 := t3 (o := o1) (s0 := s0) (s1 := .val (.ref 0)) (s2 := s2) (c3 := c3) (c4 := c4) (c5 := c5) (c6 := c6) (c11 := c11) d
  have e4 := t4 (o := o1) (s0 := s0) (s1 := .val (.ref 0)) (s2 := s2) (c3 := c3) (c4 := c4) (c5 := c5) (c6 := c6) (c11 := c11) d (v9 := .val (rl p bs)) (v10 := .val (lf (leastForm p bs)))
  have e5 := t5 (o := o1) (s0 := s0) (s1 := .val (.ref 0)) (s2 := s2) (c3 := c3) (c5 := c5) (c6 := c6) (c10 := .val (lf (leastForm p bs))) (c11 := c11) d
  obtain ⟨q, cs, o2, e6, h2, d2⟩ := t6 (s0 := s0) (s2 := s2) (c3 := c3) (c4 := .val (.tup ((rep p bs 2).map bt))) (c5 := c5) (c6 := c6) (c11 := c11) (v7 := .val (fr p)) (v8 := .val (.tup (bs.map bt))) (v9 := .val (rl p bs)) (v10 := .val (lf (leastForm p bs))) h1
  have e7 := t7 (o := o2) (s0 := s0) (s1 := .val (.ref 0)) (s2 := s2) (c3 := c3) (c4 := .val (.tup ((rep p bs 2).map bt))) (c6 := c6) (c7 := .val (fr p)) (c8 := .val (.tup (bs.map bt))) (c11 := c11) d d2
  obtain ⟨t, o3, e8, h3, ft⟩ := t8 (s0 := s0) (s2 := s2) (c3 := c3) (c4 := .val (.tup ((rep p bs 2).map bt))) (c5 := .val (.lst [fr q, .tup (cs.map bt)])) (c6 := c6) (c11 := c11) (v7 := .val (fr p)) (v8 := .val (.tup (bs.map bt))) (v9 := .val (rl p bs)) (v10 := .val (lf (leastForm p bs))) h2
  have e9 := t9 (o := o3) (s0 := s0) (s1 := .val (.ref 0)) (s2 := s2) (c3 := c3) (c4 := .val (.tup ((rep p bs 2).map bt))) (c5 := .val (.lst [fr q, .tup (cs.map bt)])) (c7 := .val (fr p)) (c8 := .val (.tup (bs.map bt))) (c11 := c11) d ft
  have e10 := t10 (o := o3) (s0 := s0) (s1 := .val (.ref 0)) (s2 := s2) (c3 := c3) (c4 := .val (.tup ((rep p bs 2).map bt))) (c5 := .val (.lst [fr q, .tup (cs.map bt)])) (c7 := .val (fr p)) (c8 := .val (.tup (bs.map bt))) (c11 := c11) d ft
  refine ⟨p, bs, o3, .val (.tup ((rep p bs 2).map bt)), .val (.lst [fr q, .tup (cs.map bt)]), .val (fr t), .val (fr p), .val (.tup (bs.map bt)), ?_, h3, d.tame.1.least.txt⟩
  unfold b0_2b
  simp only [sSeq_ev, e1, e2, e3, e4, e5, e6, e7, e8, e9, e10, seq_next]
/-! ### what is refused -/
def fq (a b : Int) : PV := .tup [.int a, .int b]
def odd1 : PV := .lst [.non, .int 0, fq 0 1, fq (-1) 2, fq 2 4, fq 1 0, .int 3, .str [49], .tup [.int 1, .int 1, .int 1], .tup [.bl true, .int 1], .lst [.int 1, .int 1]]
def one1 (a b : Int) (s : List Nat) : PV := .tup [fq a b, .str s]
def odd2 : PV := .lst [.non, .lst [], .tup [.non], .tup [one1 1 1 [97]], .tup [one1 0 1 []], .tup [one1 0 1 [98, 97]], .tup [one1 0 1 [97, 97]], .tup [one1 0 1 [101]],
  .tup [one1 1 2 [97], one1 0 1 [97]], .tup [one1 0 1 [97], one1 0 1 [98]], .tup [one1 (-1) 2 [97]], .tup [one1 0 2 [97]], .tup [.tup [.int 0, .str [97]]], .tup [.tup [fq 0 1, .int 1]], .str [97], .tup [.tup [fq 0 1]]]
def wPer : List Nat := [112, 101, 114, 105, 111, 100]
def wBea : List Nat := [98, 101, 97, 116, 115]
theorem per_all (o : SO) {v : Int} (h0 : 0 ≤ v) (h1 : v < 11) : ∃ x, pIdxS odd1 (.int v) [o] = some x ∧ runFn T 69 1 [x, .non] [o] = .ok (.val (.str wPer)) [o] := by
  have : v = 0 ∨ v = 1 ∨ v = 2 ∨ v = 3 ∨ v = 4 ∨ v = 5 ∨ v = 6 ∨ v = 7 ∨ v = 8 ∨ v = 9 ∨ v = 10 := by omega
  rcases this with e | e | e | e | e | e | e | e | e | e | e <;> subst e <;> exact ⟨_, rfl, by kernel_rfl⟩
theorem bea_all (o : SO) {v : Int} (h0 : 0 ≤ v) (h1 : v < 16) : ∃ x, pIdxS odd2 (.int v) [o] = some x ∧ runFn T 69 1 [fq 1 1, x] [o] = .ok (.val (.str wBea)) [o] := by
  have : v = 0 ∨ v = 1 ∨ v = 2 ∨ v = 3 ∨ v = 4 ∨ v = 5 ∨ v = 6 ∨ v = 7 ∨ v = 8 ∨ v = 9 ∨ v = 10 ∨ v = 11 ∨ v = 12 ∨ v = 13 ∨ v = 14 ∨ v = 15 := by omega
  rcases this with e | e | e | e | e | e | e | e | e | e | e | e | e | e | e | e <;> subst e <;> exact ⟨_, rfl, by kernel_rfl⟩
theorem u3 : b0_3 (runFn T 69) [s0, s1, s2, c3, c4, c5, c6, c7, c8, c9, c10, c11] [o] = .next [s0, s1, s2, .val odd1, c4, c5, c6, c7, c8, c9, c10, c11] [o] := by kernel_rfl
theorem u4 (ho : RowOk ns o) : ∃ o', b0_4 (runFn T 69) [s0, .val (.ref 0), s2, .val odd1, c4, c5, c6, c7, c8, c9, c10, c11] [o] = .next [s0, .val (.ref 0), s2, .val odd1, c4, c5, c6, c7, c8, c9, c10, c11] [o'] ∧ RowOk ns o' := by
  obtain ⟨v, o1, e1, v0, v1, h1⟩ := ltaken_ok (T := T) (k := 69) (id := 183) rfl (by decide) (rest := []) (m := 11) ho
  obtain ⟨x, e2, e3⟩ := per_all o1 v0 v1
  have e4 : nLenS odd1 [o] = some (.int 11) := rfl
  have e5 : pNe (.str wPer) (.str wPer) = some (.bl false) := by kernel_rfl
  generalize odd1 = L at e2 e4 ⊢
  refine ⟨o1, ?_, h1⟩
  unfold b0_4
  rw [show ([112, 101, 114, 105, 111, 100] : List Nat) = wPer from rfl]
  generalize wPer = W at e3 e5 ⊢
  simp [e1, e4, e2, e3, e5]
theorem u8 : (sSeq (b0_5 (runFn T 69)) (sSeq (b0_6 (runFn T 69)) (sSeq (b0_7 (runFn T 69)) (b0_8 (runFn T 69))))) [s0, s1, s2, c3, c4, c5, c6, c7, c8, c9, c10, c11] [o] = .next [s0, s1, s2, .val odd2, c4, c5, c6, c7, c8, c9, c10, c11] [o] := by kernel_rfl
theorem u9 (ho : RowOk ns o) (t : Txts as) {r : Rat × List Beat} : ∃ o', b0_9 (runFn T 69) [s0, .val (.ref 0), s2, .val odd2, c4, c5, c6, c7, c8, .val (rhy p as), .val (lf r), c11] [o] = .ret (.val (.bl true)) [o'] := by
  obtain ⟨v, o1, e1, v0, v1, h1⟩ := ltaken_ok (T := T) (k := 69) (id := 183) rfl (by decide) (rest := []) (m := 16) ho
  obtain ⟨x, e2, e3⟩ := bea_all o1 v0 v1
  have e4 : nLenS odd2 [o] = some (.int 16) := rfl
  have e5 : pEq (.str wBea) (.str wBea) = some (.bl true) := by kernel_rfl
  generalize odd2 = L at e2 e4 ⊢
  refine ⟨o1, ?_⟩
  generalize hρ : ([s0, .val (.ref 0), s2, .val L, c4, c5, c6, c7, c8, .val (rhy p as), .val (lf r), c11] : BR.Env) = ρ
  have g9 : ∀ st, eVar 9 ρ st = .ok (rhy p as) st := fun st => by rw [← hρ]; rfl
  have g10 : ∀ st, eVar 10 ρ st = .ok (.tup [fr r.1, .tup (r.2.map bt)]) st := fun st => by rw [← hρ]; rfl
  have g1 : ∀ st, eVar 1 ρ st = .ok (.ref 0) st := fun st => by rw [← hρ]; rfl
  have g3 : ∀ st, eVar 3 ρ st = .ok L st := fun st => by rw [← hρ]; rfl
  have e6 := ne_tup (T := T) (k := 69) (ρ := ρ) (st := [o1]) has.sub (by decide) (g9 _) (g10 _)
  unfold fq at e3
  unfold b0_9
  rw [show ([98, 101, 97, 116, 115] : List Nat) = wBea from rfl]
  generalize wBea = W at e3 e5 ⊢
  simp [-eVar_ev, g1, g3, e1, e4, e2, e3, e5, e6]
theorem law_k05 (ns : List Int) : ∃ st, runFn T 70 0 [.scr ns] [] = .ok (.val (.bl true)) st := by
  obtain ⟨ρ', st', e1, o', hst, hr, c3, c4, c5, c6, c7, c8, c9, c10, c11, hρ, hc⟩ := forGo_st (g := gName 2) (body := b0_2b (runFn T 69)) (fun i : Nat => PV.int (i : Int)) (List.range 4)
    (fun pre ρ st => ∃ o', st = [o'] ∧ RowOk ns o' ∧ ∃ c3 c4 c5 c6 c7 c8 c9 c10 c11, (∃ s2, ρ = [.val (.scr ns), .val (.ref 0), s2, c3, c4, c5, c6, c7, c8, c9, c10, c11]) ∧ (pre = [] ∨ ∃ p bs, c9 = .val (rl p bs) ∧ c10 = .val (lf (leastForm p bs)) ∧ Txts (leastForm p bs).2))
    (by
      rintro pre i post _ _ hy ⟨o', rfl, ho, c3, c4, c5, c6, c7, c8, c9, c10, c11, ⟨s2, rfl⟩, _⟩
      obtain ⟨p, bs, o2, d4, d5, d6, d7, d8, e, h2, tx⟩ := turn (s0 := .val (.scr ns)) (s2 := .val (.int (i : Int))) (c3 := c3) (c4 := c4) (c5 := c5) (c6 := c6) (c7 := c7) (c8 := c8) (c9 := c9) (c10 := c10) (c11 := c11) ho
      exact ⟨_, _, _, _, rfl, .inl e, o2, rfl, h2, _, _, _, _, _, _, _, _, _, ⟨_, rfl⟩, .inr ⟨p, bs, rfl, rfl, tx⟩⟩) (ρ := [.val (.scr ns), .val (.ref 0), .un, .un, .un, .un, .un, .un, .un, .un, .un, .un]) (st := [rowOf ns 0 15 0])
    ⟨_, rfl, ⟨0, 15, 0, rfl, by decide, by decide, by decide⟩, _, _, _, _, _, _, _, _, _, ⟨_, rfl⟩, .inl rfl⟩
  subst hst
  obtain ⟨s2, rfl⟩ := hρ
  rcases hc with hc | ⟨p, bs, rfl, rfl, tx⟩
  · exact absurd hc (by decide)
  · obtain ⟨o2, e4, h2⟩ := u4 (s0 := .val (.scr ns)) (s2 := s2) (c4 := c4) (c5 := c5) (c6 := c6) (c7 := c7) (c8 := c8) (c9 := .val (rl p bs)) (c10 := .val (lf (leastForm p bs))) (c11 := c11) hr
    obtain ⟨o3, e9⟩ := u9 (s0 := .val (.scr ns)) (s2 := s2) (c4 := c4) (c5 := c5) (c6 := c6) (c7 := c7) (c8 := c8) (p := (leastForm p bs).1) (c11 := c11) (r := leastForm p bs) h2 tx
    refine ⟨[o3], ?_⟩
    rw [run_fn (T := T) (k := 69) (id := 0) (ps := 1) (n := 12) (body := b0) rfl rfl, b0_eq]
    show BR.finish (b0_ (runFn T 69) [.val (.scr ns), .un, .un, .un, .un, .un, .un, .un, .un, .un, .un, .un] []) = _
    unfold b0_
    rw [sSeq_ev, show b0_1 (runFn T 69) [.val (.scr ns), .un, .un, .un, .un, .un, .un, .un, .un, .un, .un, .un] [] = .next [.val (.scr ns), .val (.ref 0), .un, .un, .un, .un, .un, .un, .un, .un, .un, .un] [rowOf ns 0 15 0] from rfl, seq_next]
    have ew : wRng1 (eC (.int 4)) [.val (.scr ns), .val (.ref 0), .un, .un, .un, .un, .un, .un, .un, .un, .un, .un] [rowOf ns 0 15 0] = .ok ((List.range 4).map fun i : Nat => PV.int (i : Int)) [rowOf ns 0 15 0] := by
      rw [wRng1_ev, eC_ev, bind_ok, kLs_ev, show (PV.int 4) = .int ((4 : Nat) : Int) from rfl, rng1_nat (by decide), ofOpt_some]
    have e2 : b0_2 (runFn T 69) [.val (.scr ns), .val (.ref 0), .un, .un, .un, .un, .un, .un, .un, .un, .un, .un] [rowOf ns 0 15 0] = .next [.val (.scr ns), .val (.ref 0), s2, c3, c4, c5, c6, c7, c8, .val (rl p bs), .val (lf (leastForm p bs)), c11] [o'] := by
      unfold b0_2
      rw [sFor_ev, ew, bindS_ok, kFor_ev, e1]
    have e8 := u8 (s0 := .val (.scr ns)) (s1 := .val (.ref 0)) (s2 := s2) (c3 := .val odd1) (c4 := c4) (c5 := c5) (c6 := c6) (c7 := c7) (c8 := c8) (c9 := .val (rl p bs)) (c10 := .val (lf (leastForm p bs))) (c11 := c11) (o := o2)
    have assoc : ∀ (a b c d f : SM) (ρ : BR.Env) (st : Store), sSeq a (sSeq b (sSeq c (sSeq d f))) ρ st = (sSeq (sSeq a (sSeq b (sSeq c d))) f) ρ st := fun a b c d f ρ st => by
      simp only [sSeq_ev]
      cases a ρ st <;> try rfl
      simp only [seq_next, sSeq_ev]
      rename_i ρ1 st1
      cases b ρ1 st1 <;> try rfl
      simp only [seq_next, sSeq_ev]
      rename_i ρ2 st2
      cases c ρ2 st2 <;> rfl
    rw [sSeq_ev, e2, seq_next, sSeq_ev, u3, seq_next, sSeq_ev, e4, seq_next, assoc, sSeq_ev, e8, seq_next]
    unfold rl
    rw [e9]
    rfl
end
end K05
set_option maxHeartbeats 0
theorem PySem.Challenge.cw_beatrounds_k05_rhythms_made_holds : PySem.Challenge.rw_beatrounds_k05_rhythms_made.Holds := by
  exact K05.holds (fun ns _ => K05.law_k05 ns)
